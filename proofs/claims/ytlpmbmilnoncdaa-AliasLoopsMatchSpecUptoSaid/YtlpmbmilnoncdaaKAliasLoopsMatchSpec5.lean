/- Part 5 of the proof of the law AliasLoopsMatchSpec: what it needs. -/
import Derived.Test.YtlpmbmilnoncdaaKAliasLoopsMatchSpec4
/- A function of the program computes what its Lean function does. Written by program. -/
namespace Go.Proofs.Ytlpmbmilnoncdaa
open Go.RowKit
set_option maxRecDepth 100000
set_option maxHeartbeats 40000000
set_option linter.unusedVariables false
theorem alias_Expand_run (a0 : List TAlias) (a1 : Str) (r : (List Str) × TFault) (hr : alias_Expand a0 a1 = some r) : Run Try.prog 28 [.l TAlias.pc a0, .s a1] (.tup [.l cS r.1, .agg [.i r.2.Code, .i r.2.Index]]) := by
  unfold alias_Expand at hr
  refine run_of_awp (fn := Try.f28) ⟨Try.func28, rfl, by kernel_rfl⟩ rfl (fun _ => rfl) fun g0 hg => ?_
  refine awp_seq ?_
  refine awp_region ?_
  refine awpl_op rfl (opTo_q (d := 4) rfl rfl ev_assign) ?_
  refine awpl_op rfl (opTo_alloc (k := 5) 5 rfl ty_api_Fault (.inr ⟨rfl, rfl⟩) rfl rfl rfl) ?_
  refine awpl_nil ?_
  refine kthen_normal ?_
  refine awp_seq ?_
  refine awp_seq ?_
  refine awp_region ?_
  refine awpl_op rfl (opTo_q (d := 10) rfl rfl ev_move) ?_
  obtain ⟨v1, h2, hr⟩ := bind_some hr
  refine awpl_op rfl (opTo_call (k := 11) (alias_Validate_run a0 v1 h2) rfl rfl) ?_
  refine awpl_op rfl (opTo_alloc (k := 6) 6 rfl ty_api_Fault (.inr ⟨rfl, rfl⟩) rfl rfl rfl) ?_
  refine awpl_op rfl (opTo_store rfl rfl rfl ty_api_Fault rfl rfl) ?_
  refine awpl_nil ?_
  refine kthen_normal ?_
  refine awp_seq ?_
  refine awp_region ?_
  refine awpl_op rfl (opTo_q (d := 12) rfl rfl (ev_loadN rfl rfl ty_api_Fault rfl rfl)) ?_
  obtain ⟨v3, h4, hr⟩ := bind_some hr
  refine awpl_op rfl (opTo_call (k := 13) (basic_Failed_run v1 v3 h4) rfl rfl) ?_
  refine awpl_nil ?_
  refine kthen_normal ?_
  refine awp_cond rfl (fun c5 => ?_) (fun c5 => ?_)
  · replace hr := cond_t c5 hr
    refine awp_seq ?_
    refine awp_drawn 2 [(4, .pv (.sl (some true) [])), (14, .agg [.i v1.Code, .i v1.Index])] mixed (by kernel_rfl) rfl rfl (.run (.plain rfl) (opG_q (ev_loadN rfl rfl ty_api_Fault rfl rfl)) (.run (.plain rfl) (opG_q ev_assign) .nil)) rfl ?_
    refine awpl_op rfl (opTo_store rfl rfl rfl ty_api_Fault rfl rfl) ?_
    refine awpl_nil ?_
    refine kthen_normal ?_
    refine awp_ret ?_
    refine kthen_ret ?_
    cases hr
    exact kret' rfl (.cons (res_tmp rfl) (.cons (res_cellN rfl rfl ty_api_Fault rfl rfl) .nil)) rfl
  · replace hr := cond_f c5 hr
    refine awp_skip ?_
    refine kthen_normal ?_
    refine awp_seq ?_
    refine awp_seq ?_
    refine awp_region ?_
    refine awpl_op rfl (opTo_q (d := 15) rfl rfl ev_move) ?_
    obtain ⟨v6, h7, hr⟩ := bind_some hr
    refine awpl_op rfl (opTo_call (k := 16) (envelope_Address_run a1 v6 h7) rfl rfl) ?_
    refine awpl_op rfl (opTo_q (d := 17) rfl rfl (ev_not rfl)) ?_
    refine awpl_nil ?_
    refine kthen_normal ?_
    refine awp_cond rfl (fun c8 => ?_) (fun c8 => ?_)
    · replace hr := cond_t c8 hr
      refine awp_seq ?_
      refine awp_region ?_
      obtain ⟨v9, h10, hr⟩ := bind_some hr
      refine awpl_op rfl (opTo_call (k := 18) (basic_Fault_run 10 ((-2)) v9 h10) rfl rfl) ?_
      refine awpl_op rfl (opTo_q (d := 4) rfl rfl ev_assign) ?_
      refine awpl_op rfl (opTo_store rfl rfl rfl ty_api_Fault rfl rfl) ?_
      refine awpl_nil ?_
      refine kthen_normal ?_
      refine awp_ret ?_
      refine kthen_ret ?_
      cases hr
      exact kret' rfl (.cons (res_tmp rfl) (.cons (res_cellN rfl rfl ty_api_Fault rfl rfl) .nil)) rfl
    · replace hr := cond_f c8 hr
      refine awp_skip ?_
      refine kthen_normal ?_
      refine awp_seq ?_
      refine awp_region ?_
      refine awpl_op rfl (opTo_q (d := 19) rfl rfl ev_move) ?_
      refine awpl_inl (fn := Try.f47) (args := [.l TAlias.pc a0]) 100000 199999 [(0, .l TAlias.pc a0), (1, .s a1), (5, .ptr 5 0)] (wanted_plain rfl) rfl ⟨Try.func47, rfl, by kernel_rfl⟩ rfl rfl (.cons rfl (.cons rfl (.cons rfl .nil))) fun T1 ds1 hT1 => ?_
      refine awp_seq ?_
      refine awp_region ?_
      refine awpl_op rfl (opTo_q (d := 2) rfl rfl ev_assign) ?_
      refine awpl_nil ?_
      refine kthen_normal ?_
      refine awp_seq ?_
      refine awp_region ?_
      refine awpl_op rfl (opTo_makeMap (k0 := 6) 1006 false rfl rfl rfl) ?_
      refine awpl_op rfl (opTo_q (d := 3) rfl rfl ev_assign) ?_
      refine awpl_nil ?_
      refine kthen_normal ?_
      refine awp_seq ?_
      refine awp_seq ?_
      refine awp_region ?_
      refine awpl_op rfl (opTo_q (d := 7) rfl rfl ev_move) ?_
      refine awpl_op rfl (opTo_q (d := 8) rfl rfl (ev_llen (f := TAlias.pc) rfl ty_s_api_Alias.u)) ?_
      refine awpl_op rfl (opTo_q (d := 9) rfl rfl ev_move) ?_
      refine awpl_nil ?_
      refine kthen_normal ?_
      refine awp_block ?_
      obtain ⟨b12, hl, hr⟩ := bind_some hr
      refine awp_loop (alias_Expand_l1 a0) (fun s11 => [(3, .mp 1006), (7, .l TAlias.pc a0), (8, .i ((a0.length : Int))), (9, .i s11.1)]) (fun s11 => [(1006, .mapo false (menc keyS (cL cS) s11.2)), (199999, .sus g0.w.heap.size ds1), (100000, .hold (.l TAlias.pc a0) (T1.getD 0 undef)), (100001, .hold (.s a1) (T1.getD 1 undef)), (100005, .hold (.ptr 5 0) (T1.getD 5 undef)), (5, .cells [.i 0, .i 0])]) (fun b12 => At (.exit 0) [(3, .mp 1006)] [(1006, .mapo false (menc keyS (cL cS) b12)), (199999, .sus g0.w.heap.size ds1), (100000, .hold (.l TAlias.pc a0) (T1.getD 0 undef)), (100001, .hold (.s a1) (T1.getD 1 undef)), (100005, .hold (.ptr 5 0) (T1.getD 5 undef)), (5, .cells [.i 0, .i 0])]) ?_ ((0, ([] : List (Str × (List Str))))) hl (frLe_cons rfl (frLe_cons rfl (frLe_cons rfl (frLe_cons rfl frLe_nil)))) (stoLe_cons rfl (stoLe_cons rfl (stoLe_cons rfl (stoLe_cons rfl (stoLe_cons rfl (stoLe_cons rfl stoLe_nil)))))) ?_
      · intro s11 x13 hr
        unfold alias_Expand_l1 at hr
        refine awp_seq ?_
        refine awp_region ?_
        refine awpl_op rfl (opTo_q (d := 10) rfl rfl (ev_lss rfl rfl)) ?_
        refine awpl_nil ?_
        refine kthen_normal ?_
        refine awp_seq ?_
        refine awp_cond rfl (fun c14 => ?_) (fun c14 => ?_)
        · replace hr := cond_t c14 hr
          refine awp_skip ?_
          refine kthen_normal ?_
          refine awp_seq ?_
          refine awp_block ?_
          refine awp_seq ?_
          refine awp_region ?_
          obtain ⟨v15, h16, hr⟩ := bind_some hr
          refine awpl_op rfl (opTo_q (d := 11) rfl rfl (ev_idx (f := TAlias.pc) rfl rfl ty_s_api_Alias ty_api_Alias rfl h16)) ?_
          refine awpl_op rfl (opTo_q (d := 12) rfl rfl (ev_load_epN rfl ty_api_Alias rfl rfl)) ?_
          refine awpl_op rfl (opTo_alloc (k := 5) 1005 rfl ty_api_Alias (.inr ⟨rfl, rfl⟩) rfl rfl rfl) ?_
          refine awpl_op rfl (opTo_store rfl rfl rfl ty_api_Alias rfl rfl) ?_
          refine awpl_nil ?_
          refine kthen_normal ?_
          refine awp_region ?_
          refine awpl_op rfl (opTo_q (d := 13) rfl rfl ev_move) ?_
          refine awpl_op rfl (opTo_q (d := 14) rfl rfl (ev_fieldAddr rfl ty_api_Alias.u rfl ty_string rfl)) ?_
          refine awpl_op rfl (opTo_q (d := 15) rfl rfl (ev_load rfl rfl ty_string rfl rfl)) ?_
          refine awpl_op rfl (opTo_q (d := 16) rfl rfl (ev_fieldAddr rfl ty_api_Alias.u rfl ty_s_string rfl)) ?_
          refine awpl_op rfl (opTo_q (d := 17) rfl rfl (ev_load rfl rfl ty_s_string rfl rfl)) ?_
          refine awpl_op rfl (opTo_mapUpdate (KK := keyS) (F := (cL cS)) (es := s11.2) (k := v15.Address) (v := v15.To) rfl rfl rfl rfl rfl ty_map_string_s_string.u ty_string.u) ?_
          refine awpl_nil ?_
          refine kblock_normal ?_
          refine kthen_normal ?_
          refine awp_region ?_
          refine awpl_op rfl (opTo_q (d := 18) rfl rfl (ev_add rfl rfl)) ?_
          refine awpl_op rfl (opTo_q (d := 9) rfl rfl ev_move) ?_
          refine awpl_nil ?_
          cases hr
          exact ⟨rfl, (frLe_cons rfl (frLe_cons rfl (frLe_cons rfl (frLe_cons rfl frLe_nil)))), (stoLe_cons rfl (stoLe_cons rfl (stoLe_cons rfl (stoLe_cons rfl (stoLe_cons rfl (stoLe_cons rfl stoLe_nil))))))⟩
        · replace hr := cond_f c14 hr
          refine awp_exit ?_
          refine kthen_exit ?_
          cases hr
          exact ⟨by simp, rfl, (frLe_cons rfl frLe_nil), (stoLe_cons rfl (stoLe_cons rfl (stoLe_cons rfl (stoLe_cons rfl (stoLe_cons rfl (stoLe_cons rfl stoLe_nil))))))⟩
      · intro e fr2 st2 hq
        obtain ⟨rfl, hf, hs⟩ := hq
        refine kblock_exit ?_
        refine kthen_normal ?_
        refine awp_le hf hs ?_
        refine awp_seq ?_
        refine awp_region ?_
        refine awpl_op rfl (opTo_q (d := 19) rfl rfl ev_move) ?_
        refine awpl_op rfl (opTo_q (d := 2) rfl rfl ev_assign) ?_
        refine awpl_nil ?_
        refine kthen_normal ?_
        refine awp_ret ?_
        refine inlK (cs := [.mp 1006]) (fr'' := [(0, .l TAlias.pc a0), (1, .s a1), (5, .ptr 5 0)]) (σ'' := [(1006, .mapo false (menc keyS (cL cS) b12)), (5, .cells [.i 0, .i 0])]) (.inl rfl) frLe_refl stoLe_refl (.cons (res_tmp rfl) .nil) (.cons rfl (.cons rfl (.cons rfl .nil))) rfl (stoLe_cons rfl (stoLe_cons rfl stoLe_nil)) ?_
        refine awpl_op rfl (opTo_alloc (k := 7) 7 rfl ty_map_string_s_string (.inl rfl) rfl rfl rfl) ?_
        refine awpl_op rfl (opTo_store rfl rfl rfl ty_map_string_s_string rfl rfl) ?_
        refine awpl_nil ?_
        refine kthen_normal ?_
        refine awp_seq ?_
        refine awp_region ?_
        refine awpl_op rfl (opTo_alloc (k := 8) 8 rfl ty_s_string (.inl rfl) rfl rfl rfl) ?_
        refine awpl_adoptC 1008 (o := 8) (j := 0) 9 1 rfl rfl rfl rfl ?_
        refine awpl_nil ?_
        refine kthen_normal ?_
        refine awp_seq ?_
        refine awp_seq ?_
        refine awp_region ?_
        refine awpl_op rfl (opTo_q (d := 21) rfl rfl ev_move) ?_
        refine awpl_op rfl (opTo_q (d := 22) rfl rfl ev_move) ?_
        refine awpl_op rfl (opTo_g (d := 23) rfl rfl (opG_lit (F := cS) (l := ([a1] : List Str)) ty_s_string ty_string rfl (fun _ => rfl) rfl rfl)) ?_
        refine awpl_inl (fn := Try.f48) (args := [.l TAlias.pc a0, .l cS (([a1] : List Str))]) 1500000 1599999 [(5, .ptr 5 0), (7, .ptr 7 0), (8, .ptr 8 0)] (wanted_plain rfl) rfl ⟨Try.func48, rfl, by kernel_rfl⟩ rfl rfl (.cons rfl (.cons rfl (.cons rfl .nil))) fun T15 ds15 hT15 => ?_
        refine awp_seq ?_
        refine awp_region ?_
        refine awpl_op rfl (opTo_box (k := 2) 2 rfl rfl rfl rfl rfl) ?_
        refine awpl_op rfl (opTo_box (k := 3) 3 rfl rfl rfl rfl rfl) ?_
        refine awpl_op rfl (opTo_q (d := 4) rfl rfl ev_assign) ?_
        refine awpl_nil ?_
        refine kthen_normal ?_
        refine awp_seq ?_
        refine awp_region ?_
        refine awpl_op rfl (opTo_q (d := 5) rfl rfl (ev_makeFunc rfl rfl)) ?_
        refine awpl_op rfl (opTo_q (d := 4) rfl rfl ev_assign) ?_
        refine awpl_nil ?_
        refine kthen_normal ?_
        refine awp_ret ?_
        refine inlK (cs := [.fn (.func 61) [] [.ptr 2 0, .ptr 3 0]]) (fr'' := [(5, .ptr 5 0), (7, .ptr 7 0), (8, .ptr 8 0)]) (σ'' := [(3, .cells [.l cS (([a1] : List Str))]), (2, .cells [.l TAlias.pc a0]), (1008, .row 9 false 1 (List.map cS (([] : List Str)))), (8, .cells [.hs 1008 0]), (7, .cells [.mp 1006]), (1006, .mapo false (menc keyS (cL cS) b12)), (5, .cells [.i 0, .i 0])]) (.inl rfl) frLe_refl stoLe_refl (.cons (res_tmp rfl) .nil) (.cons rfl (.cons rfl (.cons rfl .nil))) rfl (stoLe_cons rfl (stoLe_cons rfl (stoLe_cons rfl (stoLe_cons rfl (stoLe_cons rfl (stoLe_cons rfl (stoLe_cons rfl stoLe_nil))))))) ?_
        refine awpl_nil ?_
        refine kthen_normal ?_
        refine awp_block ?_
        refine awp_rangef (fn0 := Try.f61) 1600000 1699998 1699999 [(5, .ptr 5 0), (7, .ptr 7 0), (8, .ptr 8 0), (24, .fn (.func 61) [] [.ptr 2 0, .ptr 3 0])] rfl rfl rfl ⟨Try.func61, rfl, by kernel_rfl⟩ rfl rfl rfl rfl rfl (.cons rfl (.cons rfl (.cons rfl (.cons rfl .nil)))) fun T16 b16 L16 ds16 hT16 hLs16 hLp16 hLt16 hLq16 hLa16 hLb16 => ?_
        refine awp_seq ?_
        refine awp_region ?_
        refine awpl_op rfl (opTo_q (d := 9) rfl rfl (ev_load rfl rfl ty_s_api_Alias rfl rfl)) ?_
        refine awpl_inl (fn := Try.f47) (args := [.l TAlias.pc a0]) 1700000 1799999 [(0, .fn (.yield b16) [] []), (2, .ptr 3 0)] (wanted_plain rfl) rfl ⟨Try.func47, rfl, by kernel_rfl⟩ rfl rfl (.cons rfl (.cons rfl .nil)) fun T17 ds17 hT17 => ?_
        refine awp_seq ?_
        refine awp_region ?_
        refine awpl_op rfl (opTo_q (d := 2) rfl rfl ev_assign) ?_
        refine awpl_nil ?_
        refine kthen_normal ?_
        refine awp_seq ?_
        refine awp_region ?_
        refine awpl_op rfl (opTo_makeMap (k0 := 6) 2006 false rfl rfl rfl) ?_
        refine awpl_op rfl (opTo_q (d := 3) rfl rfl ev_assign) ?_
        refine awpl_nil ?_
        refine kthen_normal ?_
        refine awp_seq ?_
        refine awp_seq ?_
        refine awp_region ?_
        refine awpl_op rfl (opTo_q (d := 7) rfl rfl ev_move) ?_
        refine awpl_op rfl (opTo_q (d := 8) rfl rfl (ev_llen (f := TAlias.pc) rfl ty_s_api_Alias.u)) ?_
        refine awpl_op rfl (opTo_q (d := 9) rfl rfl ev_move) ?_
        refine awpl_nil ?_
        refine kthen_normal ?_
        refine awp_block ?_
        obtain ⟨b18, hl, hr⟩ := bind_some hr
        refine awp_loop (alias_Expand_l2 a0) (fun s17 => [(3, .mp 2006), (7, .l TAlias.pc a0), (8, .i ((a0.length : Int))), (9, .i s17.1)]) (fun s17 => [(2006, .mapo false (menc keyS (cL cS) s17.2)), (1799999, .sus g0.w.heap.size ds17), (1700000, .hold (.fn (.yield b16) [] []) (T17.getD 0 undef)), (1700002, .hold (.ptr 3 0) (T17.getD 2 undef)), (1699999, .sus g0.w.heap.size ds16), (1699998, .lp b16 L16), (1600005, .hold (.ptr 5 0) (T16.getD 5 undef)), (1600007, .hold (.ptr 7 0) (T16.getD 7 undef)), (1600008, .hold (.ptr 8 0) (T16.getD 8 undef)), (1600024, .hold (.fn (.func 61) [] [.ptr 2 0, .ptr 3 0]) (T16.getD 24 undef)), (3, .cells [.l cS (([a1] : List Str))]), (2, .cells [.l TAlias.pc a0]), (1008, .row 9 false 1 (List.map cS (([] : List Str)))), (8, .cells [.hs 1008 0]), (7, .cells [.mp 1006]), (1006, .mapo false (menc keyS (cL cS) b12)), (5, .cells [.i 0, .i 0])]) (fun b18 => At (.exit 0) [(3, .mp 2006)] [(2006, .mapo false (menc keyS (cL cS) b18)), (1799999, .sus g0.w.heap.size ds17), (1700000, .hold (.fn (.yield b16) [] []) (T17.getD 0 undef)), (1700002, .hold (.ptr 3 0) (T17.getD 2 undef)), (1699999, .sus g0.w.heap.size ds16), (1699998, .lp b16 L16), (1600005, .hold (.ptr 5 0) (T16.getD 5 undef)), (1600007, .hold (.ptr 7 0) (T16.getD 7 undef)), (1600008, .hold (.ptr 8 0) (T16.getD 8 undef)), (1600024, .hold (.fn (.func 61) [] [.ptr 2 0, .ptr 3 0]) (T16.getD 24 undef)), (3, .cells [.l cS (([a1] : List Str))]), (2, .cells [.l TAlias.pc a0]), (1008, .row 9 false 1 (List.map cS (([] : List Str)))), (8, .cells [.hs 1008 0]), (7, .cells [.mp 1006]), (1006, .mapo false (menc keyS (cL cS) b12)), (5, .cells [.i 0, .i 0])]) ?_ ((0, ([] : List (Str × (List Str))))) hl (frLe_cons rfl (frLe_cons rfl (frLe_cons rfl (frLe_cons rfl frLe_nil)))) (stoLe_cons rfl (stoLe_cons rfl (stoLe_cons rfl (stoLe_cons rfl (stoLe_cons rfl (stoLe_cons rfl (stoLe_cons rfl (stoLe_cons rfl (stoLe_cons rfl (stoLe_cons rfl (stoLe_cons rfl (stoLe_cons rfl (stoLe_cons rfl (stoLe_cons rfl (stoLe_cons rfl (stoLe_cons rfl (stoLe_cons rfl stoLe_nil))))))))))))))))) ?_
        · intro s17 x19 hr
          unfold alias_Expand_l2 at hr
          refine awp_seq ?_
          refine awp_region ?_
          refine awpl_op rfl (opTo_q (d := 10) rfl rfl (ev_lss rfl rfl)) ?_
          refine awpl_nil ?_
          refine kthen_normal ?_
          refine awp_seq ?_
          refine awp_cond rfl (fun c20 => ?_) (fun c20 => ?_)
          · replace hr := cond_t c20 hr
            refine awp_skip ?_
            refine kthen_normal ?_
            refine awp_seq ?_
            refine awp_block ?_
            refine awp_seq ?_
            refine awp_region ?_
            obtain ⟨v21, h22, hr⟩ := bind_some hr
            refine awpl_op rfl (opTo_q (d := 11) rfl rfl (ev_idx (f := TAlias.pc) rfl rfl ty_s_api_Alias ty_api_Alias rfl h22)) ?_
            refine awpl_op rfl (opTo_q (d := 12) rfl rfl (ev_load_epN rfl ty_api_Alias rfl rfl)) ?_
            refine awpl_op rfl (opTo_alloc (k := 5) 1005 rfl ty_api_Alias (.inr ⟨rfl, rfl⟩) rfl rfl rfl) ?_
            refine awpl_op rfl (opTo_store rfl rfl rfl ty_api_Alias rfl rfl) ?_
            refine awpl_nil ?_
            refine kthen_normal ?_
            refine awp_region ?_
            refine awpl_op rfl (opTo_q (d := 13) rfl rfl ev_move) ?_
            refine awpl_op rfl (opTo_q (d := 14) rfl rfl (ev_fieldAddr rfl ty_api_Alias.u rfl ty_string rfl)) ?_
            refine awpl_op rfl (opTo_q (d := 15) rfl rfl (ev_load rfl rfl ty_string rfl rfl)) ?_
            refine awpl_op rfl (opTo_q (d := 16) rfl rfl (ev_fieldAddr rfl ty_api_Alias.u rfl ty_s_string rfl)) ?_
            refine awpl_op rfl (opTo_q (d := 17) rfl rfl (ev_load rfl rfl ty_s_string rfl rfl)) ?_
            refine awpl_op rfl (opTo_mapUpdate (KK := keyS) (F := (cL cS)) (es := s17.2) (k := v21.Address) (v := v21.To) rfl rfl rfl rfl rfl ty_map_string_s_string.u ty_string.u) ?_
            refine awpl_nil ?_
            refine kblock_normal ?_
            refine kthen_normal ?_
            refine awp_region ?_
            refine awpl_op rfl (opTo_q (d := 18) rfl rfl (ev_add rfl rfl)) ?_
            refine awpl_op rfl (opTo_q (d := 9) rfl rfl ev_move) ?_
            refine awpl_nil ?_
            cases hr
            exact ⟨rfl, (frLe_cons rfl (frLe_cons rfl (frLe_cons rfl (frLe_cons rfl frLe_nil)))), (stoLe_cons rfl (stoLe_cons rfl (stoLe_cons rfl (stoLe_cons rfl (stoLe_cons rfl (stoLe_cons rfl (stoLe_cons rfl (stoLe_cons rfl (stoLe_cons rfl (stoLe_cons rfl (stoLe_cons rfl (stoLe_cons rfl (stoLe_cons rfl (stoLe_cons rfl (stoLe_cons rfl (stoLe_cons rfl (stoLe_cons rfl stoLe_nil)))))))))))))))))⟩
          · replace hr := cond_f c20 hr
            refine awp_exit ?_
            refine kthen_exit ?_
            cases hr
            exact ⟨by simp, rfl, (frLe_cons rfl frLe_nil), (stoLe_cons rfl (stoLe_cons rfl (stoLe_cons rfl (stoLe_cons rfl (stoLe_cons rfl (stoLe_cons rfl (stoLe_cons rfl (stoLe_cons rfl (stoLe_cons rfl (stoLe_cons rfl (stoLe_cons rfl (stoLe_cons rfl (stoLe_cons rfl (stoLe_cons rfl (stoLe_cons rfl (stoLe_cons rfl (stoLe_cons rfl stoLe_nil)))))))))))))))))⟩
        · intro e fr2 st2 hq
          obtain ⟨rfl, hf, hs⟩ := hq
          refine kblock_exit ?_
          refine kthen_normal ?_
          refine awp_le hf hs ?_
          refine awp_seq ?_
          refine awp_region ?_
          refine awpl_op rfl (opTo_q (d := 19) rfl rfl ev_move) ?_
          refine awpl_op rfl (opTo_q (d := 2) rfl rfl ev_assign) ?_
          refine awpl_nil ?_
          refine kthen_normal ?_
          refine awp_ret ?_
          refine inlK (cs := [.mp 2006]) (fr'' := [(0, .fn (.yield b16) [] []), (2, .ptr 3 0)]) (σ'' := [(2006, .mapo false (menc keyS (cL cS) b18)), (1699999, .sus g0.w.heap.size ds16), (1699998, .lp b16 L16), (1600005, .hold (.ptr 5 0) (T16.getD 5 undef)), (1600007, .hold (.ptr 7 0) (T16.getD 7 undef)), (1600008, .hold (.ptr 8 0) (T16.getD 8 undef)), (1600024, .hold (.fn (.func 61) [] [.ptr 2 0, .ptr 3 0]) (T16.getD 24 undef)), (3, .cells [.l cS (([a1] : List Str))]), (2, .cells [.l TAlias.pc a0]), (1008, .row 9 false 1 (List.map cS (([] : List Str)))), (8, .cells [.hs 1008 0]), (7, .cells [.mp 1006]), (1006, .mapo false (menc keyS (cL cS) b12)), (5, .cells [.i 0, .i 0])]) (.inl rfl) frLe_refl stoLe_refl (.cons (res_tmp rfl) .nil) (.cons rfl (.cons rfl .nil)) rfl (stoLe_cons rfl (stoLe_cons rfl (stoLe_cons rfl (stoLe_cons rfl (stoLe_cons rfl (stoLe_cons rfl (stoLe_cons rfl (stoLe_cons rfl (stoLe_cons rfl (stoLe_cons rfl (stoLe_cons rfl (stoLe_cons rfl (stoLe_cons rfl (stoLe_cons rfl stoLe_nil)))))))))))))) ?_
          refine awpl_op rfl (opTo_q (d := 4) rfl rfl ev_assign) ?_
          refine awpl_nil ?_
          refine kthen_normal ?_
          refine awp_seq ?_
          refine awp_region ?_
          refine awpl_op rfl (opTo_makeMap (k0 := 11) 1011 false rfl rfl rfl) ?_
          refine awpl_op rfl (opTo_alloc (k := 5) 1005 rfl ty_map_string_bool (.inl rfl) rfl rfl rfl) ?_
          refine awpl_op rfl (opTo_store rfl rfl rfl ty_map_string_bool rfl rfl) ?_
          refine awpl_nil ?_
          refine kthen_normal ?_
          refine awp_seq ?_
          refine awp_region ?_
          refine awpl_op rfl (opTo_alloc (k := 6) 6 rfl ty_s_string (.inl rfl) rfl rfl rfl) ?_
          refine awpl_adoptC 3006 (o := 6) (j := 0) 9 1 rfl rfl rfl rfl ?_
          refine awpl_nil ?_
          refine kthen_normal ?_
          refine awp_seq ?_
          refine awp_region ?_
          refine awpl_op rfl (opTo_q (d := 12) rfl rfl (ev_makeFunc rfl rfl)) ?_
          refine awpl_op rfl (opTo_q (d := 7) rfl rfl ev_assign) ?_
          refine awpl_nil ?_
          refine kthen_normal ?_
          refine awp_seq ?_
          refine awp_region ?_
          refine awpl_op rfl (opTo_q (d := 13) rfl rfl ev_move) ?_
          refine awpl_op rfl (opTo_q (d := 14) rfl rfl (ev_load rfl rfl ty_s_string rfl rfl)) ?_
          refine awpl_inl (fn := Try.f62) (args := [.l cS (([a1] : List Str)), .ptr 1005 0, .ptr 6 0]) 1800000 1899999 [(0, .fn (.yield b16) [] []), (4, .mp 2006), (6, .ptr 6 0), (7, .fn (.func 62) [] [.ptr 1005 0, .ptr 6 0])] (wanted_plain rfl) rfl ⟨Try.func62, rfl, by kernel_rfl⟩ rfl rfl (.cons rfl (.cons rfl (.cons rfl (.cons rfl .nil)))) fun T18 ds18 hT18 => ?_
          refine awp_seq ?_
          refine awp_region ?_
          refine awpl_op rfl (opTo_q (d := 6) rfl rfl ev_move) ?_
          refine awpl_op rfl (opTo_q (d := 7) rfl rfl (ev_llen (f := cS) rfl ty_s_string.u)) ?_
          refine awpl_op rfl (opTo_q (d := 8) rfl rfl ev_move) ?_
          refine awpl_nil ?_
          refine kthen_normal ?_
          refine awp_block ?_
          obtain ⟨b24, hl, hr⟩ := bind_some hr
          refine awp_loop (alias_Expand_l3 a1) (fun s23 => [(1, .ptr 1005 0), (2, .ptr 6 0), (6, .l cS (([a1] : List Str))), (7, .i (((([a1] : List Str)).length : Int))), (8, .i s23.1)]) (fun s23 => [(1899999, .sus g0.w.heap.size ds18), (1800000, .hold (.fn (.yield b16) [] []) (T18.getD 0 undef)), (1800004, .hold (.mp 2006) (T18.getD 4 undef)), (1800006, .hold (.ptr 6 0) (T18.getD 6 undef)), (1800007, .hold (.fn (.func 62) [] [.ptr 1005 0, .ptr 6 0]) (T18.getD 7 undef)), (3006, .row 9 false 1 (List.map cS s23.2.1)), (6, .cells [.hs 3006 0]), (1005, .cells [.mp 1011]), (1011, .mapo false (menc keyS cB s23.2.2)), (2006, .mapo false (menc keyS (cL cS) b18)), (1699999, .sus g0.w.heap.size ds16), (1699998, .lp b16 L16), (1600005, .hold (.ptr 5 0) (T16.getD 5 undef)), (1600007, .hold (.ptr 7 0) (T16.getD 7 undef)), (1600008, .hold (.ptr 8 0) (T16.getD 8 undef)), (1600024, .hold (.fn (.func 61) [] [.ptr 2 0, .ptr 3 0]) (T16.getD 24 undef)), (3, .cells [.l cS (([a1] : List Str))]), (2, .cells [.l TAlias.pc a0]), (1008, .row 9 false 1 (List.map cS (([] : List Str)))), (8, .cells [.hs 1008 0]), (7, .cells [.mp 1006]), (1006, .mapo false (menc keyS (cL cS) b12)), (5, .cells [.i 0, .i 0])]) (fun b24 => At (.exit 0) [] [(1899999, .sus g0.w.heap.size ds18), (1800000, .hold (.fn (.yield b16) [] []) (T18.getD 0 undef)), (1800004, .hold (.mp 2006) (T18.getD 4 undef)), (1800006, .hold (.ptr 6 0) (T18.getD 6 undef)), (1800007, .hold (.fn (.func 62) [] [.ptr 1005 0, .ptr 6 0]) (T18.getD 7 undef)), (3006, .row 9 false 1 (List.map cS b24.1)), (6, .cells [.hs 3006 0]), (1005, .cells [.mp 1011]), (1011, .mapo false (menc keyS cB b24.2)), (2006, .mapo false (menc keyS (cL cS) b18)), (1699999, .sus g0.w.heap.size ds16), (1699998, .lp b16 L16), (1600005, .hold (.ptr 5 0) (T16.getD 5 undef)), (1600007, .hold (.ptr 7 0) (T16.getD 7 undef)), (1600008, .hold (.ptr 8 0) (T16.getD 8 undef)), (1600024, .hold (.fn (.func 61) [] [.ptr 2 0, .ptr 3 0]) (T16.getD 24 undef)), (3, .cells [.l cS (([a1] : List Str))]), (2, .cells [.l TAlias.pc a0]), (1008, .row 9 false 1 (List.map cS (([] : List Str)))), (8, .cells [.hs 1008 0]), (7, .cells [.mp 1006]), (1006, .mapo false (menc keyS (cL cS) b12)), (5, .cells [.i 0, .i 0])]) ?_ ((0, ([] : List Str), ([] : List (Str × Bool)))) hl (frLe_cons rfl (frLe_cons rfl (frLe_cons rfl (frLe_cons rfl (frLe_cons rfl frLe_nil))))) (stoLe_cons rfl (stoLe_cons rfl (stoLe_cons rfl (stoLe_cons rfl (stoLe_cons rfl (stoLe_cons rfl (stoLe_cons rfl (stoLe_cons rfl (stoLe_cons rfl (stoLe_cons rfl (stoLe_cons rfl (stoLe_cons rfl (stoLe_cons rfl (stoLe_cons rfl (stoLe_cons rfl (stoLe_cons rfl (stoLe_cons rfl (stoLe_cons rfl (stoLe_cons rfl (stoLe_cons rfl (stoLe_cons rfl (stoLe_cons rfl (stoLe_cons rfl stoLe_nil))))))))))))))))))))))) ?_
          · intro s23 x25 hr
            unfold alias_Expand_l3 at hr
            refine awp_seq ?_
            refine awp_region ?_
            refine awpl_op rfl (opTo_q (d := 9) rfl rfl (ev_lss rfl rfl)) ?_
            refine awpl_nil ?_
            refine kthen_normal ?_
            refine awp_seq ?_
            refine awp_cond rfl (fun c26 => ?_) (fun c26 => ?_)
            · replace hr := cond_t c26 hr
              refine awp_skip ?_
              refine kthen_normal ?_
              obtain ⟨j27, hx, hy⟩ := bind_some hr
              refine awp_join (fun j27 => [(1, .ptr 1005 0), (2, .ptr 6 0), (6, .l cS (([a1] : List Str))), (7, .i (((([a1] : List Str)).length : Int))), (8, .i s23.1)]) (fun j27 => [(1899999, .sus g0.w.heap.size ds18), (1800000, .hold (.fn (.yield b16) [] []) (T18.getD 0 undef)), (1800004, .hold (.mp 2006) (T18.getD 4 undef)), (1800006, .hold (.ptr 6 0) (T18.getD 6 undef)), (1800007, .hold (.fn (.func 62) [] [.ptr 1005 0, .ptr 6 0]) (T18.getD 7 undef)), (3006, .row 9 false 1 (List.map cS j27.1)), (6, .cells [.hs 3006 0]), (1005, .cells [.mp 1011]), (1011, .mapo false (menc keyS cB j27.2)), (2006, .mapo false (menc keyS (cL cS) b18)), (1699999, .sus g0.w.heap.size ds16), (1699998, .lp b16 L16), (1600005, .hold (.ptr 5 0) (T16.getD 5 undef)), (1600007, .hold (.ptr 7 0) (T16.getD 7 undef)), (1600008, .hold (.ptr 8 0) (T16.getD 8 undef)), (1600024, .hold (.fn (.func 61) [] [.ptr 2 0, .ptr 3 0]) (T16.getD 24 undef)), (3, .cells [.l cS (([a1] : List Str))]), (2, .cells [.l TAlias.pc a0]), (1008, .row 9 false 1 (List.map cS (([] : List Str)))), (8, .cells [.hs 1008 0]), (7, .cells [.mp 1006]), (1006, .mapo false (menc keyS (cL cS) b12)), (5, .cells [.i 0, .i 0])]) (fun z => j27 = z) ?_ ?_
              · have hr := hx
                clear hx hy
                refine awp_block ?_
                refine awp_seq ?_
                refine awp_region ?_
                obtain ⟨v28, h29, hr⟩ := bind_some hr
                refine awpl_op rfl (opTo_q (d := 10) rfl rfl (ev_idx (f := cS) rfl rfl ty_s_string ty_string rfl h29)) ?_
                refine awpl_op rfl (opTo_q (d := 11) rfl rfl (ev_load_ep rfl ty_string rfl rfl)) ?_
                refine awpl_op rfl (opTo_q (d := 5) rfl rfl ev_assign) ?_
                refine awpl_nil ?_
                refine kthen_normal ?_
                refine awp_seq ?_
                refine awp_region ?_
                refine awpl_op rfl (opTo_q (d := 12) rfl rfl (ev_load rfl rfl ty_map_string_bool rfl rfl)) ?_
                refine awpl_op rfl (opTo_q (d := 13) rfl rfl ev_move) ?_
                refine awpl_op rfl (opTo_q (d := 14) rfl rfl (ev_lookup (KK := keyS) (F := cB) (es := s23.2.2) (k := v28) (z := false) rfl rfl rfl ty_map_string_bool.u ty_string.u ty_bool rfl)) ?_
                refine awpl_op rfl (opTo_q (d := 15) rfl rfl (ev_not rfl)) ?_
                refine awpl_nil ?_
                refine kthen_normal ?_
                refine awp_cond rfl (fun c30 => ?_) (fun c30 => ?_)
                · replace hr := cond_t c30 hr
                  refine awp_seq ?_
                  refine awp_region ?_
                  refine awpl_op rfl (opTo_q (d := 16) rfl rfl (ev_load rfl rfl ty_map_string_bool rfl rfl)) ?_
                  refine awpl_op rfl (opTo_q (d := 17) rfl rfl ev_move) ?_
                  refine awpl_op rfl (opTo_mapUpdate (KK := keyS) (F := cB) (es := s23.2.2) (k := v28) (v := true) rfl rfl rfl rfl rfl ty_map_string_bool.u ty_string.u) ?_
                  refine awpl_nil ?_
                  refine kthen_normal ?_
                  refine awp_region ?_
                  refine awpl_op rfl (opTo_q (d := 18) rfl rfl (ev_load rfl rfl ty_s_string rfl rfl)) ?_
                  refine awpl_op rfl (opTo_q (d := 19) rfl rfl ev_move) ?_
                  refine awpl_op rfl (opTo_g (d := 20) rfl rfl (opG_lit (F := cS) (l := ([v28] : List Str)) ty_s_string ty_string rfl (fun _ => rfl) rfl rfl)) ?_
                  obtain ⟨v31, h32, hr⟩ := bind_some hr
                  refine awpl_op rfl (opTo_append (k := 21) (F := cS) (l := s23.2.1) (xs := (([v28] : List Str))) (lim := 8796093022208) rfl rfl rfl rfl ty_s_string ty_string rfl rfl (fun _ => rfl) rfl h32) ?_
                  refine awpl_op rfl (opTo_store rfl rfl rfl ty_s_string rfl rfl) ?_
                  refine awpl_nil ?_
                  refine kblock_normal ?_
                  cases hr
                  exact joinK_normal _ rfl (frLe_cons rfl (frLe_cons rfl (frLe_cons rfl (frLe_cons rfl (frLe_cons rfl frLe_nil))))) (stoLe_cons rfl (stoLe_cons rfl (stoLe_cons rfl (stoLe_cons rfl (stoLe_cons rfl (stoLe_cons rfl (stoLe_cons rfl (stoLe_cons rfl (stoLe_cons rfl (stoLe_cons rfl (stoLe_cons rfl (stoLe_cons rfl (stoLe_cons rfl (stoLe_cons rfl (stoLe_cons rfl (stoLe_cons rfl (stoLe_cons rfl (stoLe_cons rfl (stoLe_cons rfl (stoLe_cons rfl (stoLe_cons rfl (stoLe_cons rfl (stoLe_cons rfl stoLe_nil)))))))))))))))))))))))
                · replace hr := cond_f c30 hr
                  refine awp_skip ?_
                  refine kblock_normal ?_
                  cases hr
                  exact joinK_normal _ rfl (frLe_cons rfl (frLe_cons rfl (frLe_cons rfl (frLe_cons rfl (frLe_cons rfl frLe_nil))))) (stoLe_cons rfl (stoLe_cons rfl (stoLe_cons rfl (stoLe_cons rfl (stoLe_cons rfl (stoLe_cons rfl (stoLe_cons rfl (stoLe_cons rfl (stoLe_cons rfl (stoLe_cons rfl (stoLe_cons rfl (stoLe_cons rfl (stoLe_cons rfl (stoLe_cons rfl (stoLe_cons rfl (stoLe_cons rfl (stoLe_cons rfl (stoLe_cons rfl (stoLe_cons rfl (stoLe_cons rfl (stoLe_cons rfl (stoLe_cons rfl (stoLe_cons rfl stoLe_nil)))))))))))))))))))))))
              · rintro _ rfl
                have hr := hy
                clear hx hy
                refine awp_region ?_
                refine awpl_op rfl (opTo_q (d := 22) rfl rfl (ev_add rfl rfl)) ?_
                refine awpl_op rfl (opTo_q (d := 8) rfl rfl ev_move) ?_
                refine awpl_nil ?_
                cases hr
                exact ⟨rfl, (frLe_cons rfl (frLe_cons rfl (frLe_cons rfl (frLe_cons rfl (frLe_cons rfl frLe_nil))))), (stoLe_cons rfl (stoLe_cons rfl (stoLe_cons rfl (stoLe_cons rfl (stoLe_cons rfl (stoLe_cons rfl (stoLe_cons rfl (stoLe_cons rfl (stoLe_cons rfl (stoLe_cons rfl (stoLe_cons rfl (stoLe_cons rfl (stoLe_cons rfl (stoLe_cons rfl (stoLe_cons rfl (stoLe_cons rfl (stoLe_cons rfl (stoLe_cons rfl (stoLe_cons rfl (stoLe_cons rfl (stoLe_cons rfl (stoLe_cons rfl (stoLe_cons rfl stoLe_nil)))))))))))))))))))))))⟩
            · replace hr := cond_f c26 hr
              refine awp_exit ?_
              refine kthen_exit ?_
              cases hr
              exact ⟨by simp, rfl, frLe_nil, (stoLe_cons rfl (stoLe_cons rfl (stoLe_cons rfl (stoLe_cons rfl (stoLe_cons rfl (stoLe_cons rfl (stoLe_cons rfl (stoLe_cons rfl (stoLe_cons rfl (stoLe_cons rfl (stoLe_cons rfl (stoLe_cons rfl (stoLe_cons rfl (stoLe_cons rfl (stoLe_cons rfl (stoLe_cons rfl (stoLe_cons rfl (stoLe_cons rfl (stoLe_cons rfl (stoLe_cons rfl (stoLe_cons rfl (stoLe_cons rfl (stoLe_cons rfl stoLe_nil)))))))))))))))))))))))⟩
          · intro e fr2 st2 hq
            obtain ⟨rfl, hf, hs⟩ := hq
            refine kblock_exit ?_
            refine inlK (cs := []) (fr'' := [(0, .fn (.yield b16) [] []), (4, .mp 2006), (6, .ptr 6 0), (7, .fn (.func 62) [] [.ptr 1005 0, .ptr 6 0])]) (σ'' := [(3006, .row 9 false 1 (List.map cS b24.1)), (6, .cells [.hs 3006 0]), (1005, .cells [.mp 1011]), (1011, .mapo false (menc keyS cB b24.2)), (2006, .mapo false (menc keyS (cL cS) b18)), (1699999, .sus g0.w.heap.size ds16), (1699998, .lp b16 L16), (1600005, .hold (.ptr 5 0) (T16.getD 5 undef)), (1600007, .hold (.ptr 7 0) (T16.getD 7 undef)), (1600008, .hold (.ptr 8 0) (T16.getD 8 undef)), (1600024, .hold (.fn (.func 61) [] [.ptr 2 0, .ptr 3 0]) (T16.getD 24 undef)), (3, .cells [.l cS (([a1] : List Str))]), (2, .cells [.l TAlias.pc a0]), (1008, .row 9 false 1 (List.map cS (([] : List Str)))), (8, .cells [.hs 1008 0]), (7, .cells [.mp 1006]), (1006, .mapo false (menc keyS (cL cS) b12)), (5, .cells [.i 0, .i 0])]) (.inr rfl) hf hs .nil (.cons rfl (.cons rfl (.cons rfl (.cons rfl .nil)))) rfl (stoLe_cons rfl (stoLe_cons rfl (stoLe_cons rfl (stoLe_cons rfl (stoLe_cons rfl (stoLe_cons rfl (stoLe_cons rfl (stoLe_cons rfl (stoLe_cons rfl (stoLe_cons rfl (stoLe_cons rfl (stoLe_cons rfl (stoLe_cons rfl (stoLe_cons rfl (stoLe_cons rfl (stoLe_cons rfl (stoLe_cons rfl (stoLe_cons rfl stoLe_nil)))))))))))))))))) ?_
            refine awpl_nil ?_
            refine kthen_normal ?_
            refine awp_block ?_
            obtain ⟨b34, hl, hr⟩ := bind_some hr
            refine awp_loop (alias_Expand_l4 b12 b18) (fun s33 => [(0, .fn (.yield b16) [] []), (4, .mp 2006), (6, .ptr 6 0), (7, .fn (.func 62) [] [.ptr 1005 0, .ptr 6 0])]) (fun s33 => [(3006, .row 9 false 1 (List.map cS s33.1)), (6, .cells [.hs 3006 0]), (1005, .cells [.mp 1011]), (1011, .mapo false (menc keyS cB s33.2.1)), (2006, .mapo false (menc keyS (cL cS) b18)), (1699999, .sus g0.w.heap.size ds16), (1699998, .lp b16 L16), (1600005, .hold (.ptr 5 0) (T16.getD 5 undef)), (1600007, .hold (.ptr 7 0) (T16.getD 7 undef)), (1600008, .hold (.ptr 8 0) (T16.getD 8 undef)), (1600024, .hold (.fn (.func 61) [] [.ptr 2 0, .ptr 3 0]) (T16.getD 24 undef)), (3, .cells [.l cS (([a1] : List Str))]), (2, .cells [.l TAlias.pc a0]), (1008, .row 9 false 1 (List.map cS s33.2.2)), (8, .cells [.hs 1008 0]), (7, .cells [.mp 1006]), (1006, .mapo false (menc keyS (cL cS) b12)), (5, .cells [.i 0, .i 0])]) (fun b34 => At (.exit 0) [] [(1699999, .sus g0.w.heap.size ds16), (1699998, .lp b16 L16), (1600005, .hold (.ptr 5 0) (T16.getD 5 undef)), (1600007, .hold (.ptr 7 0) (T16.getD 7 undef)), (1600008, .hold (.ptr 8 0) (T16.getD 8 undef)), (1600024, .hold (.fn (.func 61) [] [.ptr 2 0, .ptr 3 0]) (T16.getD 24 undef)), (3, .cells [.l cS (([a1] : List Str))]), (2, .cells [.l TAlias.pc a0]), (1008, .row 9 false 1 (List.map cS b34)), (8, .cells [.hs 1008 0]), (7, .cells [.mp 1006]), (1006, .mapo false (menc keyS (cL cS) b12)), (5, .cells [.i 0, .i 0])]) ?_ ((b24.1, b24.2, ([] : List Str))) hl (frLe_cons rfl (frLe_cons rfl (frLe_cons rfl (frLe_cons rfl frLe_nil)))) (stoLe_cons rfl (stoLe_cons rfl (stoLe_cons rfl (stoLe_cons rfl (stoLe_cons rfl (stoLe_cons rfl (stoLe_cons rfl (stoLe_cons rfl (stoLe_cons rfl (stoLe_cons rfl (stoLe_cons rfl (stoLe_cons rfl (stoLe_cons rfl (stoLe_cons rfl (stoLe_cons rfl (stoLe_cons rfl (stoLe_cons rfl (stoLe_cons rfl stoLe_nil)))))))))))))))))) ?_
            · intro s33 x35 hr
              unfold alias_Expand_l4 at hr
              refine awp_seq ?_
              refine awp_seq ?_
              refine awp_region ?_
              refine awpl_op rfl (opTo_q (d := 16) rfl rfl (ev_load rfl rfl ty_s_string rfl rfl)) ?_
              refine awpl_op rfl (opTo_q (d := 17) rfl rfl (ev_hlen (F := cS) rfl rfl ty_s_string.u)) ?_
              refine awpl_op rfl (opTo_q (d := 18) rfl rfl (ev_gtr rfl rfl)) ?_
              refine awpl_nil ?_
              refine kthen_normal ?_
              refine awp_cond rfl (fun c36 => ?_) (fun c36 => ?_)
              · replace hr := cond_t c36 hr
                refine awp_skip ?_
                refine kthen_normal ?_
                refine awp_block ?_
                refine awp_seq ?_
                refine awp_region ?_
                refine awpl_op rfl (opTo_q (d := 19) rfl rfl (ev_load rfl rfl ty_s_string rfl rfl)) ?_
                refine awpl_pub (d := 19) (F := cS) (l := s33.1) rfl rfl ?_
                obtain ⟨v37, h38, hr⟩ := bind_some hr
                refine awpl_op rfl (opTo_q (d := 20) rfl rfl (ev_idx (f := cS) rfl rfl ty_s_string ty_string rfl h38)) ?_
                refine awpl_op rfl (opTo_q (d := 21) rfl rfl (ev_load_ep rfl ty_string rfl rfl)) ?_
                refine awpl_op rfl (opTo_q (d := 8) rfl rfl ev_assign) ?_
                refine awpl_nil ?_
                refine kthen_normal ?_
                refine awp_seq ?_
                refine awp_region ?_
                refine awpl_op rfl (opTo_q (d := 22) rfl rfl (ev_load rfl rfl ty_s_string rfl rfl)) ?_
                obtain ⟨v39, h40, hr⟩ := bind_some hr
                refine awpl_op rfl (opTo_hcutL (k := 23) (F := cS) (l := s33.1) rfl rfl rfl rfl ty_s_string ty_string h40) ?_
                refine awpl_op rfl (opTo_store rfl rfl rfl ty_s_string rfl rfl) ?_
                refine awpl_nil ?_
                refine kthen_normal ?_
                refine awp_seq ?_
                refine awp_seq ?_
                refine awp_region ?_
                refine awpl_op rfl (opTo_q (d := 24) rfl rfl ev_move) ?_
                refine awpl_op rfl (opTo_q (d := 25) rfl rfl ev_move) ?_
                refine awpl_yieldf (ps := [25]) (args := [.s v37]) 1600000 2500000 1699998 2599999 [(5, .ptr 5 0), (7, .ptr 7 0), (8, .ptr 8 0), (24, .fn (.func 61) [] [.ptr 2 0, .ptr 3 0])] [(0, .fn (.yield b16) [] []), (4, .mp 2006), (6, .ptr 6 0), (7, .fn (.func 62) [] [.ptr 1005 0, .ptr 6 0]), (8, .s v37)] (wanted_plain rfl) rfl rfl hLs16 hLp16 hLt16 hLq16 hLa16 hLb16 hT16 rfl rfl rfl rfl (.cons rfl (.cons rfl (.cons rfl (.cons rfl (.cons rfl .nil))))) (.cons rfl (.cons rfl (.cons rfl (.cons rfl .nil)))) fun T25 ds25 hT25 => ?_
                refine awp_region ?_
                refine awpl_op rfl (opTo_q (d := 9) rfl rfl ev_assign) ?_
                refine awpl_nil ?_
                refine asgK frLe_refl stoLe_refl rfl ?_
                refine awp_block ?_
                refine awp_seq ?_
                refine awp_region ?_
                refine awpl_op rfl (opTo_q (d := 26) rfl rfl (ev_load rfl rfl ty_map_string_s_string rfl rfl)) ?_
                refine awpl_op rfl (opTo_q (d := 27) rfl rfl ev_move) ?_
                refine opt_split (mget b12 v37) (fun v41 c42 => ?_) (fun c42 => ?_)
                · replace hr := opt_some c42 hr
                  refine awpl_op rfl (opTo_q (d := 28) rfl rfl (ev_lookup_some (KK := keyS) (F := (cL cS)) (es := b12) (k := v37) (z := (([] : List Str))) rfl rfl rfl ty_map_string_s_string.u ty_string.u ty_s_string rfl c42)) ?_
                  obtain ⟨v43, h44, hr⟩ := bind_some hr
                  refine awpl_op rfl (opTo_q (d := 29) rfl rfl (ev_isnil_no (F := cS) (l := v41) rfl rfl ty_s_string h44)) ?_
                  refine awpl_nil ?_
                  refine kthen_normal ?_
                  refine awp_cond (t := false) rfl (fun h => nomatch h) (fun _ => ?_)
                  refine awp_skip ?_
                  refine kblock_normal ?_
                  refine rndK (fr'' := [(0, .fn (.yield b16) [] []), (4, .mp 2006), (6, .ptr 6 0), (7, .fn (.func 62) [] [.ptr 1005 0, .ptr 6 0]), (8, .s v37)]) (σ'' := [(3006, .row 9 false 1 (List.map cS v39)), (6, .cells [.hs 3006 0]), (1005, .cells [.mp 1011]), (1011, .mapo false (menc keyS cB s33.2.1)), (2006, .mapo false (menc keyS (cL cS) b18)), (1699999, .sus g0.w.heap.size ds16), (1699998, .lp b16 L16), (1600005, .hold (.ptr 5 0) (T16.getD 5 undef)), (1600007, .hold (.ptr 7 0) (T16.getD 7 undef)), (1600008, .hold (.ptr 8 0) (T16.getD 8 undef)), (1600024, .hold (.fn (.func 61) [] [.ptr 2 0, .ptr 3 0]) (T16.getD 24 undef)), (3, .cells [.l cS (([a1] : List Str))]), (2, .cells [.l TAlias.pc a0]), (1008, .row 9 false 1 (List.map cS s33.2.2)), (8, .cells [.hs 1008 0]), (7, .cells [.mp 1006]), (1006, .mapo false (menc keyS (cL cS) b12)), (5, .cells [.i 0, .i 0])]) .off stoLe_refl rfl (.cons rfl (.cons rfl (.cons rfl (.cons rfl (.cons rfl .nil))))) rfl (stoLe_cons rfl (stoLe_cons rfl (stoLe_cons rfl (stoLe_cons rfl (stoLe_cons rfl (stoLe_cons rfl (stoLe_cons rfl (stoLe_cons rfl (stoLe_cons rfl (stoLe_cons rfl (stoLe_cons rfl (stoLe_cons rfl (stoLe_cons rfl (stoLe_cons rfl (stoLe_cons rfl (stoLe_cons rfl (stoLe_cons rfl (stoLe_cons rfl stoLe_nil)))))))))))))))))) ?_
                  refine awpl_op rfl (opTo_q (d := 27) rfl rfl (ev_not rfl)) ?_
                  refine awpl_nil ?_
                  refine kthen_normal ?_
                  refine awp_cond (t := false) rfl (fun h => nomatch h) (fun _ => ?_)
                  refine awp_skip ?_
                  refine kthen_normal ?_
                  refine awp_region ?_
                  refine awpl_op rfl (opTo_q (d := 28) rfl rfl ev_move) ?_
                  refine awpl_op rfl (opTo_q (d := 29) rfl rfl ev_move) ?_
                  refine awpl_op rfl (opTo_q (d := 30) rfl rfl ev_move) ?_
                  refine awpl_op rfl (opTo_q (d := 31) rfl rfl (ev_lookup (KK := keyS) (F := (cL cS)) (es := b18) (k := v37) (z := (([] : List Str))) rfl rfl rfl ty_map_string_s_string.u ty_string.u ty_s_string rfl)) ?_
                  refine awpl_inl (fn := Try.f62) (args := [.l cS (((mget b18 v37).getD (([] : List Str)))), .ptr 1005 0, .ptr 6 0]) 2600000 2699999 [(0, .fn (.yield b16) [] []), (4, .mp 2006), (6, .ptr 6 0), (7, .fn (.func 62) [] [.ptr 1005 0, .ptr 6 0])] (wanted_plain rfl) rfl ⟨Try.func62, rfl, by kernel_rfl⟩ rfl rfl (.cons rfl (.cons rfl (.cons rfl (.cons rfl .nil)))) fun T26 ds26 hT26 => ?_
                  refine awp_seq ?_
                  refine awp_region ?_
                  refine awpl_op rfl (opTo_q (d := 6) rfl rfl ev_move) ?_
                  refine awpl_op rfl (opTo_q (d := 7) rfl rfl (ev_llen (f := cS) rfl ty_s_string.u)) ?_
                  refine awpl_op rfl (opTo_q (d := 8) rfl rfl ev_move) ?_
                  refine awpl_nil ?_
                  refine kthen_normal ?_
                  refine awp_block ?_
                  obtain ⟨b46, hl, hr⟩ := bind_some hr
                  refine awp_loop (alias_Expand_l5 b18 v37) (fun s45 => [(1, .ptr 1005 0), (2, .ptr 6 0), (6, .l cS (((mget b18 v37).getD (([] : List Str))))), (7, .i (((((mget b18 v37).getD (([] : List Str)))).length : Int))), (8, .i s45.1)]) (fun s45 => [(2699999, .sus g0.w.heap.size ds26), (2600000, .hold (.fn (.yield b16) [] []) (T26.getD 0 undef)), (2600004, .hold (.mp 2006) (T26.getD 4 undef)), (2600006, .hold (.ptr 6 0) (T26.getD 6 undef)), (2600007, .hold (.fn (.func 62) [] [.ptr 1005 0, .ptr 6 0]) (T26.getD 7 undef)), (3006, .row 9 false 1 (List.map cS s45.2.1)), (6, .cells [.hs 3006 0]), (1005, .cells [.mp 1011]), (1011, .mapo false (menc keyS cB s45.2.2)), (2006, .mapo false (menc keyS (cL cS) b18)), (1699999, .sus g0.w.heap.size ds16), (1699998, .lp b16 L16), (1600005, .hold (.ptr 5 0) (T16.getD 5 undef)), (1600007, .hold (.ptr 7 0) (T16.getD 7 undef)), (1600008, .hold (.ptr 8 0) (T16.getD 8 undef)), (1600024, .hold (.fn (.func 61) [] [.ptr 2 0, .ptr 3 0]) (T16.getD 24 undef)), (3, .cells [.l cS (([a1] : List Str))]), (2, .cells [.l TAlias.pc a0]), (1008, .row 9 false 1 (List.map cS s33.2.2)), (8, .cells [.hs 1008 0]), (7, .cells [.mp 1006]), (1006, .mapo false (menc keyS (cL cS) b12)), (5, .cells [.i 0, .i 0])]) (fun b46 => At (.exit 0) [] [(2699999, .sus g0.w.heap.size ds26), (2600000, .hold (.fn (.yield b16) [] []) (T26.getD 0 undef)), (2600004, .hold (.mp 2006) (T26.getD 4 undef)), (2600006, .hold (.ptr 6 0) (T26.getD 6 undef)), (2600007, .hold (.fn (.func 62) [] [.ptr 1005 0, .ptr 6 0]) (T26.getD 7 undef)), (3006, .row 9 false 1 (List.map cS b46.1)), (6, .cells [.hs 3006 0]), (1005, .cells [.mp 1011]), (1011, .mapo false (menc keyS cB b46.2)), (2006, .mapo false (menc keyS (cL cS) b18)), (1699999, .sus g0.w.heap.size ds16), (1699998, .lp b16 L16), (1600005, .hold (.ptr 5 0) (T16.getD 5 undef)), (1600007, .hold (.ptr 7 0) (T16.getD 7 undef)), (1600008, .hold (.ptr 8 0) (T16.getD 8 undef)), (1600024, .hold (.fn (.func 61) [] [.ptr 2 0, .ptr 3 0]) (T16.getD 24 undef)), (3, .cells [.l cS (([a1] : List Str))]), (2, .cells [.l TAlias.pc a0]), (1008, .row 9 false 1 (List.map cS s33.2.2)), (8, .cells [.hs 1008 0]), (7, .cells [.mp 1006]), (1006, .mapo false (menc keyS (cL cS) b12)), (5, .cells [.i 0, .i 0])]) ?_ ((0, v39, s33.2.1)) hl (frLe_cons rfl (frLe_cons rfl (frLe_cons rfl (frLe_cons rfl (frLe_cons rfl frLe_nil))))) (stoLe_cons rfl (stoLe_cons rfl (stoLe_cons rfl (stoLe_cons rfl (stoLe_cons rfl (stoLe_cons rfl (stoLe_cons rfl (stoLe_cons rfl (stoLe_cons rfl (stoLe_cons rfl (stoLe_cons rfl (stoLe_cons rfl (stoLe_cons rfl (stoLe_cons rfl (stoLe_cons rfl (stoLe_cons rfl (stoLe_cons rfl (stoLe_cons rfl (stoLe_cons rfl (stoLe_cons rfl (stoLe_cons rfl (stoLe_cons rfl (stoLe_cons rfl stoLe_nil))))))))))))))))))))))) ?_
                  · intro s45 x47 hr
                    unfold alias_Expand_l5 at hr
                    refine awp_seq ?_
                    refine awp_region ?_
                    refine awpl_op rfl (opTo_q (d := 9) rfl rfl (ev_lss rfl rfl)) ?_
                    refine awpl_nil ?_
                    refine kthen_normal ?_
                    refine awp_seq ?_
                    refine awp_cond rfl (fun c48 => ?_) (fun c48 => ?_)
                    · replace hr := cond_t c48 hr
                      refine awp_skip ?_
                      refine kthen_normal ?_
                      obtain ⟨j49, hx, hy⟩ := bind_some hr
                      refine awp_join (fun j49 => [(1, .ptr 1005 0), (2, .ptr 6 0), (6, .l cS (((mget b18 v37).getD (([] : List Str))))), (7, .i (((((mget b18 v37).getD (([] : List Str)))).length : Int))), (8, .i s45.1)]) (fun j49 => [(2699999, .sus g0.w.heap.size ds26), (2600000, .hold (.fn (.yield b16) [] []) (T26.getD 0 undef)), (2600004, .hold (.mp 2006) (T26.getD 4 undef)), (2600006, .hold (.ptr 6 0) (T26.getD 6 undef)), (2600007, .hold (.fn (.func 62) [] [.ptr 1005 0, .ptr 6 0]) (T26.getD 7 undef)), (3006, .row 9 false 1 (List.map cS j49.1)), (6, .cells [.hs 3006 0]), (1005, .cells [.mp 1011]), (1011, .mapo false (menc keyS cB j49.2)), (2006, .mapo false (menc keyS (cL cS) b18)), (1699999, .sus g0.w.heap.size ds16), (1699998, .lp b16 L16), (1600005, .hold (.ptr 5 0) (T16.getD 5 undef)), (1600007, .hold (.ptr 7 0) (T16.getD 7 undef)), (1600008, .hold (.ptr 8 0) (T16.getD 8 undef)), (1600024, .hold (.fn (.func 61) [] [.ptr 2 0, .ptr 3 0]) (T16.getD 24 undef)), (3, .cells [.l cS (([a1] : List Str))]), (2, .cells [.l TAlias.pc a0]), (1008, .row 9 false 1 (List.map cS s33.2.2)), (8, .cells [.hs 1008 0]), (7, .cells [.mp 1006]), (1006, .mapo false (menc keyS (cL cS) b12)), (5, .cells [.i 0, .i 0])]) (fun z => j49 = z) ?_ ?_
                      · have hr := hx
                        clear hx hy
                        refine awp_block ?_
                        refine awp_seq ?_
                        refine awp_region ?_
                        obtain ⟨v50, h51, hr⟩ := bind_some hr
                        refine awpl_op rfl (opTo_q (d := 10) rfl rfl (ev_idx (f := cS) rfl rfl ty_s_string ty_string rfl h51)) ?_
                        refine awpl_op rfl (opTo_q (d := 11) rfl rfl (ev_load_ep rfl ty_string rfl rfl)) ?_
                        refine awpl_op rfl (opTo_q (d := 5) rfl rfl ev_assign) ?_
                        refine awpl_nil ?_
                        refine kthen_normal ?_
                        refine awp_seq ?_
                        refine awp_region ?_
                        refine awpl_op rfl (opTo_q (d := 12) rfl rfl (ev_load rfl rfl ty_map_string_bool rfl rfl)) ?_
                        refine awpl_op rfl (opTo_q (d := 13) rfl rfl ev_move) ?_
                        refine awpl_op rfl (opTo_q (d := 14) rfl rfl (ev_lookup (KK := keyS) (F := cB) (es := s45.2.2) (k := v50) (z := false) rfl rfl rfl ty_map_string_bool.u ty_string.u ty_bool rfl)) ?_
                        refine awpl_op rfl (opTo_q (d := 15) rfl rfl (ev_not rfl)) ?_
                        refine awpl_nil ?_
                        refine kthen_normal ?_
                        refine awp_cond rfl (fun c52 => ?_) (fun c52 => ?_)
                        · replace hr := cond_t c52 hr
                          refine awp_seq ?_
                          refine awp_region ?_
                          refine awpl_op rfl (opTo_q (d := 16) rfl rfl (ev_load rfl rfl ty_map_string_bool rfl rfl)) ?_
                          refine awpl_op rfl (opTo_q (d := 17) rfl rfl ev_move) ?_
                          refine awpl_op rfl (opTo_mapUpdate (KK := keyS) (F := cB) (es := s45.2.2) (k := v50) (v := true) rfl rfl rfl rfl rfl ty_map_string_bool.u ty_string.u) ?_
                          refine awpl_nil ?_
                          refine kthen_normal ?_
                          refine awp_region ?_
                          refine awpl_op rfl (opTo_q (d := 18) rfl rfl (ev_load rfl rfl ty_s_string rfl rfl)) ?_
                          refine awpl_op rfl (opTo_q (d := 19) rfl rfl ev_move) ?_
                          refine awpl_op rfl (opTo_g (d := 20) rfl rfl (opG_lit (F := cS) (l := ([v50] : List Str)) ty_s_string ty_string rfl (fun _ => rfl) rfl rfl)) ?_
                          obtain ⟨v53, h54, hr⟩ := bind_some hr
                          refine awpl_op rfl (opTo_append (k := 21) (F := cS) (l := s45.2.1) (xs := (([v50] : List Str))) (lim := 8796093022208) rfl rfl rfl rfl ty_s_string ty_string rfl rfl (fun _ => rfl) rfl h54) ?_
                          refine awpl_op rfl (opTo_store rfl rfl rfl ty_s_string rfl rfl) ?_
                          refine awpl_nil ?_
                          refine kblock_normal ?_
                          cases hr
                          exact joinK_normal _ rfl (frLe_cons rfl (frLe_cons rfl (frLe_cons rfl (frLe_cons rfl (frLe_cons rfl frLe_nil))))) (stoLe_cons rfl (stoLe_cons rfl (stoLe_cons rfl (stoLe_cons rfl (stoLe_cons rfl (stoLe_cons rfl (stoLe_cons rfl (stoLe_cons rfl (stoLe_cons rfl (stoLe_cons rfl (stoLe_cons rfl (stoLe_cons rfl (stoLe_cons rfl (stoLe_cons rfl (stoLe_cons rfl (stoLe_cons rfl (stoLe_cons rfl (stoLe_cons rfl (stoLe_cons rfl (stoLe_cons rfl (stoLe_cons rfl (stoLe_cons rfl (stoLe_cons rfl stoLe_nil)))))))))))))))))))))))
                        · replace hr := cond_f c52 hr
                          refine awp_skip ?_
                          refine kblock_normal ?_
                          cases hr
                          exact joinK_normal _ rfl (frLe_cons rfl (frLe_cons rfl (frLe_cons rfl (frLe_cons rfl (frLe_cons rfl frLe_nil))))) (stoLe_cons rfl (stoLe_cons rfl (stoLe_cons rfl (stoLe_cons rfl (stoLe_cons rfl (stoLe_cons rfl (stoLe_cons rfl (stoLe_cons rfl (stoLe_cons rfl (stoLe_cons rfl (stoLe_cons rfl (stoLe_cons rfl (stoLe_cons rfl (stoLe_cons rfl (stoLe_cons rfl (stoLe_cons rfl (stoLe_cons rfl (stoLe_cons rfl (stoLe_cons rfl (stoLe_cons rfl (stoLe_cons rfl (stoLe_cons rfl (stoLe_cons rfl stoLe_nil)))))))))))))))))))))))
                      · rintro _ rfl
                        have hr := hy
                        clear hx hy
                        refine awp_region ?_
                        refine awpl_op rfl (opTo_q (d := 22) rfl rfl (ev_add rfl rfl)) ?_
                        refine awpl_op rfl (opTo_q (d := 8) rfl rfl ev_move) ?_
                        refine awpl_nil ?_
                        cases hr
                        exact ⟨rfl, (frLe_cons rfl (frLe_cons rfl (frLe_cons rfl (frLe_cons rfl (frLe_cons rfl frLe_nil))))), (stoLe_cons rfl (stoLe_cons rfl (stoLe_cons rfl (stoLe_cons rfl (stoLe_cons rfl (stoLe_cons rfl (stoLe_cons rfl (stoLe_cons rfl (stoLe_cons rfl (stoLe_cons rfl (stoLe_cons rfl (stoLe_cons rfl (stoLe_cons rfl (stoLe_cons rfl (stoLe_cons rfl (stoLe_cons rfl (stoLe_cons rfl (stoLe_cons rfl (stoLe_cons rfl (stoLe_cons rfl (stoLe_cons rfl (stoLe_cons rfl (stoLe_cons rfl stoLe_nil)))))))))))))))))))))))⟩
                    · replace hr := cond_f c48 hr
                      refine awp_exit ?_
                      refine kthen_exit ?_
                      cases hr
                      exact ⟨by simp, rfl, frLe_nil, (stoLe_cons rfl (stoLe_cons rfl (stoLe_cons rfl (stoLe_cons rfl (stoLe_cons rfl (stoLe_cons rfl (stoLe_cons rfl (stoLe_cons rfl (stoLe_cons rfl (stoLe_cons rfl (stoLe_cons rfl (stoLe_cons rfl (stoLe_cons rfl (stoLe_cons rfl (stoLe_cons rfl (stoLe_cons rfl (stoLe_cons rfl (stoLe_cons rfl (stoLe_cons rfl (stoLe_cons rfl (stoLe_cons rfl (stoLe_cons rfl (stoLe_cons rfl stoLe_nil)))))))))))))))))))))))⟩
                  · intro e fr2 st2 hq
                    obtain ⟨rfl, hf, hs⟩ := hq
                    refine kblock_exit ?_
                    refine inlK (cs := []) (fr'' := [(0, .fn (.yield b16) [] []), (4, .mp 2006), (6, .ptr 6 0), (7, .fn (.func 62) [] [.ptr 1005 0, .ptr 6 0])]) (σ'' := [(3006, .row 9 false 1 (List.map cS b46.1)), (6, .cells [.hs 3006 0]), (1005, .cells [.mp 1011]), (1011, .mapo false (menc keyS cB b46.2)), (2006, .mapo false (menc keyS (cL cS) b18)), (1699999, .sus g0.w.heap.size ds16), (1699998, .lp b16 L16), (1600005, .hold (.ptr 5 0) (T16.getD 5 undef)), (1600007, .hold (.ptr 7 0) (T16.getD 7 undef)), (1600008, .hold (.ptr 8 0) (T16.getD 8 undef)), (1600024, .hold (.fn (.func 61) [] [.ptr 2 0, .ptr 3 0]) (T16.getD 24 undef)), (3, .cells [.l cS (([a1] : List Str))]), (2, .cells [.l TAlias.pc a0]), (1008, .row 9 false 1 (List.map cS s33.2.2)), (8, .cells [.hs 1008 0]), (7, .cells [.mp 1006]), (1006, .mapo false (menc keyS (cL cS) b12)), (5, .cells [.i 0, .i 0])]) (.inr rfl) hf hs .nil (.cons rfl (.cons rfl (.cons rfl (.cons rfl .nil)))) rfl (stoLe_cons rfl (stoLe_cons rfl (stoLe_cons rfl (stoLe_cons rfl (stoLe_cons rfl (stoLe_cons rfl (stoLe_cons rfl (stoLe_cons rfl (stoLe_cons rfl (stoLe_cons rfl (stoLe_cons rfl (stoLe_cons rfl (stoLe_cons rfl (stoLe_cons rfl (stoLe_cons rfl (stoLe_cons rfl (stoLe_cons rfl (stoLe_cons rfl stoLe_nil)))))))))))))))))) ?_
                    refine awpl_nil ?_
                    refine kblock_normal ?_
                    cases hr
                    exact ⟨rfl, (frLe_cons rfl (frLe_cons rfl (frLe_cons rfl (frLe_cons rfl frLe_nil)))), (stoLe_cons rfl (stoLe_cons rfl (stoLe_cons rfl (stoLe_cons rfl (stoLe_cons rfl (stoLe_cons rfl (stoLe_cons rfl (stoLe_cons rfl (stoLe_cons rfl (stoLe_cons rfl (stoLe_cons rfl (stoLe_cons rfl (stoLe_cons rfl (stoLe_cons rfl (stoLe_cons rfl (stoLe_cons rfl (stoLe_cons rfl (stoLe_cons rfl stoLe_nil))))))))))))))))))⟩
                · replace hr := opt_none c42 hr
                  refine awpl_op rfl (opTo_q (d := 28) rfl rfl (ev_lookup_none (KK := keyS) (F := (cL cS)) (es := b12) (k := v37) rfl rfl rfl ty_map_string_s_string.u ty_string.u ty_s_string c42)) ?_
                  refine awpl_op rfl (opTo_q (d := 29) rfl rfl (ev_isnil rfl rfl ty_s_string)) ?_
                  refine awpl_nil ?_
                  refine kthen_normal ?_
                  refine awp_cond (t := true) rfl (fun _ => ?_) (fun h => nomatch h)
                  refine awp_region ?_
                  refine awpl_op rfl (opTo_q (d := 30) rfl rfl (ev_load rfl rfl ty_s_string rfl rfl)) ?_
                  refine awpl_op rfl (opTo_q (d := 31) rfl rfl ev_move) ?_
                  refine awpl_op rfl (opTo_g (d := 32) rfl rfl (opG_lit (F := cS) (l := ([v37] : List Str)) ty_s_string ty_string rfl (fun _ => rfl) rfl rfl)) ?_
                  obtain ⟨v55, h56, hr⟩ := bind_some hr
                  refine awpl_op rfl (opTo_append (k := 33) (F := cS) (l := s33.2.2) (xs := (([v37] : List Str))) (lim := 8796093022208) rfl rfl rfl rfl ty_s_string ty_string rfl rfl (fun _ => rfl) rfl h56) ?_
                  refine awpl_op rfl (opTo_store rfl rfl rfl ty_s_string rfl rfl) ?_
                  refine awpl_nil ?_
                  refine kblock_normal ?_
                  refine rndK (fr'' := [(0, .fn (.yield b16) [] []), (4, .mp 2006), (6, .ptr 6 0), (7, .fn (.func 62) [] [.ptr 1005 0, .ptr 6 0]), (8, .s v37)]) (σ'' := [(3006, .row 9 false 1 (List.map cS v39)), (6, .cells [.hs 3006 0]), (1005, .cells [.mp 1011]), (1011, .mapo false (menc keyS cB s33.2.1)), (2006, .mapo false (menc keyS (cL cS) b18)), (1699999, .sus g0.w.heap.size ds16), (1699998, .lp b16 L16), (1600005, .hold (.ptr 5 0) (T16.getD 5 undef)), (1600007, .hold (.ptr 7 0) (T16.getD 7 undef)), (1600008, .hold (.ptr 8 0) (T16.getD 8 undef)), (1600024, .hold (.fn (.func 61) [] [.ptr 2 0, .ptr 3 0]) (T16.getD 24 undef)), (3, .cells [.l cS (([a1] : List Str))]), (2, .cells [.l TAlias.pc a0]), (1008, .row 9 false 1 (List.map cS v55)), (8, .cells [.hs 1008 0]), (7, .cells [.mp 1006]), (1006, .mapo false (menc keyS (cL cS) b12)), (5, .cells [.i 0, .i 0])]) .off stoLe_refl rfl (.cons rfl (.cons rfl (.cons rfl (.cons rfl (.cons rfl .nil))))) rfl (stoLe_cons rfl (stoLe_cons rfl (stoLe_cons rfl (stoLe_cons rfl (stoLe_cons rfl (stoLe_cons rfl (stoLe_cons rfl (stoLe_cons rfl (stoLe_cons rfl (stoLe_cons rfl (stoLe_cons rfl (stoLe_cons rfl (stoLe_cons rfl (stoLe_cons rfl (stoLe_cons rfl (stoLe_cons rfl (stoLe_cons rfl (stoLe_cons rfl stoLe_nil)))))))))))))))))) ?_
                  refine awpl_op rfl (opTo_q (d := 27) rfl rfl (ev_not rfl)) ?_
                  refine awpl_nil ?_
                  refine kthen_normal ?_
                  refine awp_cond (t := false) rfl (fun h => nomatch h) (fun _ => ?_)
                  refine awp_skip ?_
                  refine kthen_normal ?_
                  refine awp_region ?_
                  refine awpl_op rfl (opTo_q (d := 28) rfl rfl ev_move) ?_
                  refine awpl_op rfl (opTo_q (d := 29) rfl rfl ev_move) ?_
                  refine awpl_op rfl (opTo_q (d := 30) rfl rfl ev_move) ?_
                  refine awpl_op rfl (opTo_q (d := 31) rfl rfl (ev_lookup (KK := keyS) (F := (cL cS)) (es := b18) (k := v37) (z := (([] : List Str))) rfl rfl rfl ty_map_string_s_string.u ty_string.u ty_s_string rfl)) ?_
                  refine awpl_inl (fn := Try.f62) (args := [.l cS (((mget b18 v37).getD (([] : List Str)))), .ptr 1005 0, .ptr 6 0]) 2700000 2799999 [(0, .fn (.yield b16) [] []), (4, .mp 2006), (6, .ptr 6 0), (7, .fn (.func 62) [] [.ptr 1005 0, .ptr 6 0])] (wanted_plain rfl) rfl ⟨Try.func62, rfl, by kernel_rfl⟩ rfl rfl (.cons rfl (.cons rfl (.cons rfl (.cons rfl .nil)))) fun T27 ds27 hT27 => ?_
                  refine awp_seq ?_
                  refine awp_region ?_
                  refine awpl_op rfl (opTo_q (d := 6) rfl rfl ev_move) ?_
                  refine awpl_op rfl (opTo_q (d := 7) rfl rfl (ev_llen (f := cS) rfl ty_s_string.u)) ?_
                  refine awpl_op rfl (opTo_q (d := 8) rfl rfl ev_move) ?_
                  refine awpl_nil ?_
                  refine kthen_normal ?_
                  refine awp_block ?_
                  obtain ⟨b58, hl, hr⟩ := bind_some hr
                  refine awp_loop (alias_Expand_l6 b18 v37) (fun s57 => [(1, .ptr 1005 0), (2, .ptr 6 0), (6, .l cS (((mget b18 v37).getD (([] : List Str))))), (7, .i (((((mget b18 v37).getD (([] : List Str)))).length : Int))), (8, .i s57.1)]) (fun s57 => [(2799999, .sus g0.w.heap.size ds27), (2700000, .hold (.fn (.yield b16) [] []) (T27.getD 0 undef)), (2700004, .hold (.mp 2006) (T27.getD 4 undef)), (2700006, .hold (.ptr 6 0) (T27.getD 6 undef)), (2700007, .hold (.fn (.func 62) [] [.ptr 1005 0, .ptr 6 0]) (T27.getD 7 undef)), (3006, .row 9 false 1 (List.map cS s57.2.1)), (6, .cells [.hs 3006 0]), (1005, .cells [.mp 1011]), (1011, .mapo false (menc keyS cB s57.2.2)), (2006, .mapo false (menc keyS (cL cS) b18)), (1699999, .sus g0.w.heap.size ds16), (1699998, .lp b16 L16), (1600005, .hold (.ptr 5 0) (T16.getD 5 undef)), (1600007, .hold (.ptr 7 0) (T16.getD 7 undef)), (1600008, .hold (.ptr 8 0) (T16.getD 8 undef)), (1600024, .hold (.fn (.func 61) [] [.ptr 2 0, .ptr 3 0]) (T16.getD 24 undef)), (3, .cells [.l cS (([a1] : List Str))]), (2, .cells [.l TAlias.pc a0]), (1008, .row 9 false 1 (List.map cS v55)), (8, .cells [.hs 1008 0]), (7, .cells [.mp 1006]), (1006, .mapo false (menc keyS (cL cS) b12)), (5, .cells [.i 0, .i 0])]) (fun b58 => At (.exit 0) [] [(2799999, .sus g0.w.heap.size ds27), (2700000, .hold (.fn (.yield b16) [] []) (T27.getD 0 undef)), (2700004, .hold (.mp 2006) (T27.getD 4 undef)), (2700006, .hold (.ptr 6 0) (T27.getD 6 undef)), (2700007, .hold (.fn (.func 62) [] [.ptr 1005 0, .ptr 6 0]) (T27.getD 7 undef)), (3006, .row 9 false 1 (List.map cS b58.1)), (6, .cells [.hs 3006 0]), (1005, .cells [.mp 1011]), (1011, .mapo false (menc keyS cB b58.2)), (2006, .mapo false (menc keyS (cL cS) b18)), (1699999, .sus g0.w.heap.size ds16), (1699998, .lp b16 L16), (1600005, .hold (.ptr 5 0) (T16.getD 5 undef)), (1600007, .hold (.ptr 7 0) (T16.getD 7 undef)), (1600008, .hold (.ptr 8 0) (T16.getD 8 undef)), (1600024, .hold (.fn (.func 61) [] [.ptr 2 0, .ptr 3 0]) (T16.getD 24 undef)), (3, .cells [.l cS (([a1] : List Str))]), (2, .cells [.l TAlias.pc a0]), (1008, .row 9 false 1 (List.map cS v55)), (8, .cells [.hs 1008 0]), (7, .cells [.mp 1006]), (1006, .mapo false (menc keyS (cL cS) b12)), (5, .cells [.i 0, .i 0])]) ?_ ((0, v39, s33.2.1)) hl (frLe_cons rfl (frLe_cons rfl (frLe_cons rfl (frLe_cons rfl (frLe_cons rfl frLe_nil))))) (stoLe_cons rfl (stoLe_cons rfl (stoLe_cons rfl (stoLe_cons rfl (stoLe_cons rfl (stoLe_cons rfl (stoLe_cons rfl (stoLe_cons rfl (stoLe_cons rfl (stoLe_cons rfl (stoLe_cons rfl (stoLe_cons rfl (stoLe_cons rfl (stoLe_cons rfl (stoLe_cons rfl (stoLe_cons rfl (stoLe_cons rfl (stoLe_cons rfl (stoLe_cons rfl (stoLe_cons rfl (stoLe_cons rfl (stoLe_cons rfl (stoLe_cons rfl stoLe_nil))))))))))))))))))))))) ?_
                  · intro s57 x59 hr
                    unfold alias_Expand_l6 at hr
                    refine awp_seq ?_
                    refine awp_region ?_
                    refine awpl_op rfl (opTo_q (d := 9) rfl rfl (ev_lss rfl rfl)) ?_
                    refine awpl_nil ?_
                    refine kthen_normal ?_
                    refine awp_seq ?_
                    refine awp_cond rfl (fun c60 => ?_) (fun c60 => ?_)
                    · replace hr := cond_t c60 hr
                      refine awp_skip ?_
                      refine kthen_normal ?_
                      obtain ⟨j61, hx, hy⟩ := bind_some hr
                      refine awp_join (fun j61 => [(1, .ptr 1005 0), (2, .ptr 6 0), (6, .l cS (((mget b18 v37).getD (([] : List Str))))), (7, .i (((((mget b18 v37).getD (([] : List Str)))).length : Int))), (8, .i s57.1)]) (fun j61 => [(2799999, .sus g0.w.heap.size ds27), (2700000, .hold (.fn (.yield b16) [] []) (T27.getD 0 undef)), (2700004, .hold (.mp 2006) (T27.getD 4 undef)), (2700006, .hold (.ptr 6 0) (T27.getD 6 undef)), (2700007, .hold (.fn (.func 62) [] [.ptr 1005 0, .ptr 6 0]) (T27.getD 7 undef)), (3006, .row 9 false 1 (List.map cS j61.1)), (6, .cells [.hs 3006 0]), (1005, .cells [.mp 1011]), (1011, .mapo false (menc keyS cB j61.2)), (2006, .mapo false (menc keyS (cL cS) b18)), (1699999, .sus g0.w.heap.size ds16), (1699998, .lp b16 L16), (1600005, .hold (.ptr 5 0) (T16.getD 5 undef)), (1600007, .hold (.ptr 7 0) (T16.getD 7 undef)), (1600008, .hold (.ptr 8 0) (T16.getD 8 undef)), (1600024, .hold (.fn (.func 61) [] [.ptr 2 0, .ptr 3 0]) (T16.getD 24 undef)), (3, .cells [.l cS (([a1] : List Str))]), (2, .cells [.l TAlias.pc a0]), (1008, .row 9 false 1 (List.map cS v55)), (8, .cells [.hs 1008 0]), (7, .cells [.mp 1006]), (1006, .mapo false (menc keyS (cL cS) b12)), (5, .cells [.i 0, .i 0])]) (fun z => j61 = z) ?_ ?_
                      · have hr := hx
                        clear hx hy
                        refine awp_block ?_
                        refine awp_seq ?_
                        refine awp_region ?_
                        obtain ⟨v62, h63, hr⟩ := bind_some hr
                        refine awpl_op rfl (opTo_q (d := 10) rfl rfl (ev_idx (f := cS) rfl rfl ty_s_string ty_string rfl h63)) ?_
                        refine awpl_op rfl (opTo_q (d := 11) rfl rfl (ev_load_ep rfl ty_string rfl rfl)) ?_
                        refine awpl_op rfl (opTo_q (d := 5) rfl rfl ev_assign) ?_
                        refine awpl_nil ?_
                        refine kthen_normal ?_
                        refine awp_seq ?_
                        refine awp_region ?_
                        refine awpl_op rfl (opTo_q (d := 12) rfl rfl (ev_load rfl rfl ty_map_string_bool rfl rfl)) ?_
                        refine awpl_op rfl (opTo_q (d := 13) rfl rfl ev_move) ?_
                        refine awpl_op rfl (opTo_q (d := 14) rfl rfl (ev_lookup (KK := keyS) (F := cB) (es := s57.2.2) (k := v62) (z := false) rfl rfl rfl ty_map_string_bool.u ty_string.u ty_bool rfl)) ?_
                        refine awpl_op rfl (opTo_q (d := 15) rfl rfl (ev_not rfl)) ?_
                        refine awpl_nil ?_
                        refine kthen_normal ?_
                        refine awp_cond rfl (fun c64 => ?_) (fun c64 => ?_)
                        · replace hr := cond_t c64 hr
                          refine awp_seq ?_
                          refine awp_region ?_
                          refine awpl_op rfl (opTo_q (d := 16) rfl rfl (ev_load rfl rfl ty_map_string_bool rfl rfl)) ?_
                          refine awpl_op rfl (opTo_q (d := 17) rfl rfl ev_move) ?_
                          refine awpl_op rfl (opTo_mapUpdate (KK := keyS) (F := cB) (es := s57.2.2) (k := v62) (v := true) rfl rfl rfl rfl rfl ty_map_string_bool.u ty_string.u) ?_
                          refine awpl_nil ?_
                          refine kthen_normal ?_
                          refine awp_region ?_
                          refine awpl_op rfl (opTo_q (d := 18) rfl rfl (ev_load rfl rfl ty_s_string rfl rfl)) ?_
                          refine awpl_op rfl (opTo_q (d := 19) rfl rfl ev_move) ?_
                          refine awpl_op rfl (opTo_g (d := 20) rfl rfl (opG_lit (F := cS) (l := ([v62] : List Str)) ty_s_string ty_string rfl (fun _ => rfl) rfl rfl)) ?_
                          obtain ⟨v65, h66, hr⟩ := bind_some hr
                          refine awpl_op rfl (opTo_append (k := 21) (F := cS) (l := s57.2.1) (xs := (([v62] : List Str))) (lim := 8796093022208) rfl rfl rfl rfl ty_s_string ty_string rfl rfl (fun _ => rfl) rfl h66) ?_
                          refine awpl_op rfl (opTo_store rfl rfl rfl ty_s_string rfl rfl) ?_
                          refine awpl_nil ?_
                          refine kblock_normal ?_
                          cases hr
                          exact joinK_normal _ rfl (frLe_cons rfl (frLe_cons rfl (frLe_cons rfl (frLe_cons rfl (frLe_cons rfl frLe_nil))))) (stoLe_cons rfl (stoLe_cons rfl (stoLe_cons rfl (stoLe_cons rfl (stoLe_cons rfl (stoLe_cons rfl (stoLe_cons rfl (stoLe_cons rfl (stoLe_cons rfl (stoLe_cons rfl (stoLe_cons rfl (stoLe_cons rfl (stoLe_cons rfl (stoLe_cons rfl (stoLe_cons rfl (stoLe_cons rfl (stoLe_cons rfl (stoLe_cons rfl (stoLe_cons rfl (stoLe_cons rfl (stoLe_cons rfl (stoLe_cons rfl (stoLe_cons rfl stoLe_nil)))))))))))))))))))))))
                        · replace hr := cond_f c64 hr
                          refine awp_skip ?_
                          refine kblock_normal ?_
                          cases hr
                          exact joinK_normal _ rfl (frLe_cons rfl (frLe_cons rfl (frLe_cons rfl (frLe_cons rfl (frLe_cons rfl frLe_nil))))) (stoLe_cons rfl (stoLe_cons rfl (stoLe_cons rfl (stoLe_cons rfl (stoLe_cons rfl (stoLe_cons rfl (stoLe_cons rfl (stoLe_cons rfl (stoLe_cons rfl (stoLe_cons rfl (stoLe_cons rfl (stoLe_cons rfl (stoLe_cons rfl (stoLe_cons rfl (stoLe_cons rfl (stoLe_cons rfl (stoLe_cons rfl (stoLe_cons rfl (stoLe_cons rfl (stoLe_cons rfl (stoLe_cons rfl (stoLe_cons rfl (stoLe_cons rfl stoLe_nil)))))))))))))))))))))))
                      · rintro _ rfl
                        have hr := hy
                        clear hx hy
                        refine awp_region ?_
                        refine awpl_op rfl (opTo_q (d := 22) rfl rfl (ev_add rfl rfl)) ?_
                        refine awpl_op rfl (opTo_q (d := 8) rfl rfl ev_move) ?_
                        refine awpl_nil ?_
                        cases hr
                        exact ⟨rfl, (frLe_cons rfl (frLe_cons rfl (frLe_cons rfl (frLe_cons rfl (frLe_cons rfl frLe_nil))))), (stoLe_cons rfl (stoLe_cons rfl (stoLe_cons rfl (stoLe_cons rfl (stoLe_cons rfl (stoLe_cons rfl (stoLe_cons rfl (stoLe_cons rfl (stoLe_cons rfl (stoLe_cons rfl (stoLe_cons rfl (stoLe_cons rfl (stoLe_cons rfl (stoLe_cons rfl (stoLe_cons rfl (stoLe_cons rfl (stoLe_cons rfl (stoLe_cons rfl (stoLe_cons rfl (stoLe_cons rfl (stoLe_cons rfl (stoLe_cons rfl (stoLe_cons rfl stoLe_nil)))))))))))))))))))))))⟩
                    · replace hr := cond_f c60 hr
                      refine awp_exit ?_
                      refine kthen_exit ?_
                      cases hr
                      exact ⟨by simp, rfl, frLe_nil, (stoLe_cons rfl (stoLe_cons rfl (stoLe_cons rfl (stoLe_cons rfl (stoLe_cons rfl (stoLe_cons rfl (stoLe_cons rfl (stoLe_cons rfl (stoLe_cons rfl (stoLe_cons rfl (stoLe_cons rfl (stoLe_cons rfl (stoLe_cons rfl (stoLe_cons rfl (stoLe_cons rfl (stoLe_cons rfl (stoLe_cons rfl (stoLe_cons rfl (stoLe_cons rfl (stoLe_cons rfl (stoLe_cons rfl (stoLe_cons rfl (stoLe_cons rfl stoLe_nil)))))))))))))))))))))))⟩
                  · intro e fr2 st2 hq
                    obtain ⟨rfl, hf, hs⟩ := hq
                    refine kblock_exit ?_
                    refine inlK (cs := []) (fr'' := [(0, .fn (.yield b16) [] []), (4, .mp 2006), (6, .ptr 6 0), (7, .fn (.func 62) [] [.ptr 1005 0, .ptr 6 0])]) (σ'' := [(3006, .row 9 false 1 (List.map cS b58.1)), (6, .cells [.hs 3006 0]), (1005, .cells [.mp 1011]), (1011, .mapo false (menc keyS cB b58.2)), (2006, .mapo false (menc keyS (cL cS) b18)), (1699999, .sus g0.w.heap.size ds16), (1699998, .lp b16 L16), (1600005, .hold (.ptr 5 0) (T16.getD 5 undef)), (1600007, .hold (.ptr 7 0) (T16.getD 7 undef)), (1600008, .hold (.ptr 8 0) (T16.getD 8 undef)), (1600024, .hold (.fn (.func 61) [] [.ptr 2 0, .ptr 3 0]) (T16.getD 24 undef)), (3, .cells [.l cS (([a1] : List Str))]), (2, .cells [.l TAlias.pc a0]), (1008, .row 9 false 1 (List.map cS v55)), (8, .cells [.hs 1008 0]), (7, .cells [.mp 1006]), (1006, .mapo false (menc keyS (cL cS) b12)), (5, .cells [.i 0, .i 0])]) (.inr rfl) hf hs .nil (.cons rfl (.cons rfl (.cons rfl (.cons rfl .nil)))) rfl (stoLe_cons rfl (stoLe_cons rfl (stoLe_cons rfl (stoLe_cons rfl (stoLe_cons rfl (stoLe_cons rfl (stoLe_cons rfl (stoLe_cons rfl (stoLe_cons rfl (stoLe_cons rfl (stoLe_cons rfl (stoLe_cons rfl (stoLe_cons rfl (stoLe_cons rfl (stoLe_cons rfl (stoLe_cons rfl (stoLe_cons rfl (stoLe_cons rfl stoLe_nil)))))))))))))))))) ?_
                    refine awpl_nil ?_
                    refine kblock_normal ?_
                    cases hr
                    exact ⟨rfl, (frLe_cons rfl (frLe_cons rfl (frLe_cons rfl (frLe_cons rfl frLe_nil)))), (stoLe_cons rfl (stoLe_cons rfl (stoLe_cons rfl (stoLe_cons rfl (stoLe_cons rfl (stoLe_cons rfl (stoLe_cons rfl (stoLe_cons rfl (stoLe_cons rfl (stoLe_cons rfl (stoLe_cons rfl (stoLe_cons rfl (stoLe_cons rfl (stoLe_cons rfl (stoLe_cons rfl (stoLe_cons rfl (stoLe_cons rfl (stoLe_cons rfl stoLe_nil))))))))))))))))))⟩
              · replace hr := cond_f c36 hr
                refine awp_exit ?_
                refine kthen_exit ?_
                cases hr
                exact ⟨by simp, rfl, frLe_nil, (stoLe_cons rfl (stoLe_cons rfl (stoLe_cons rfl (stoLe_cons rfl (stoLe_cons rfl (stoLe_cons rfl (stoLe_cons rfl (stoLe_cons rfl (stoLe_cons rfl (stoLe_cons rfl (stoLe_cons rfl (stoLe_cons rfl (stoLe_cons rfl stoLe_nil)))))))))))))⟩
            · intro e fr2 st2 hq
              obtain ⟨rfl, hf, hs⟩ := hq
              refine kblock_exit ?_
              refine itrK (L' := L16) (fr'' := [(5, .ptr 5 0), (7, .ptr 7 0), (8, .ptr 8 0), (24, .fn (.func 61) [] [.ptr 2 0, .ptr 3 0])]) (σ'' := [(3, .cells [.l cS (([a1] : List Str))]), (2, .cells [.l TAlias.pc a0]), (1008, .row 9 false 1 (List.map cS b34)), (8, .cells [.hs 1008 0]), (7, .cells [.mp 1006]), (1006, .mapo false (menc keyS (cL cS) b12)), (5, .cells [.i 0, .i 0])]) (.inr rfl) hs rfl (.cons rfl (.cons rfl (.cons rfl (.cons rfl .nil)))) rfl (stoLe_cons rfl (stoLe_cons rfl (stoLe_cons rfl (stoLe_cons rfl (stoLe_cons rfl (stoLe_cons rfl (stoLe_cons rfl stoLe_nil))))))) rfl ?_
              refine .off ?_
              refine kblock_normal ?_
              refine kthen_normal ?_
              refine awp_seq ?_
              obtain ⟨v67, h68, hr⟩ := bind_some hr
              refine awp_drawn 2 [(35, .agg [.i v67.Code, .i v67.Index]), (34, .hs 1008 0)] mixed (by kernel_rfl) rfl rfl (.run (.plain rfl) (opG_q (ev_load rfl rfl ty_s_string rfl rfl)) (.run (.plain rfl) (opG_call (basic_None_run  v67 h68) rfl) .nil)) rfl ?_
              refine awpl_op rfl (opTo_q (d := 4) rfl rfl ev_assign) ?_
              refine awpl_op rfl (opTo_store rfl rfl rfl ty_api_Fault rfl rfl) ?_
              refine awpl_nil ?_
              refine kthen_normal ?_
              refine awp_pub (d := 4) (F := cS) (l := b34) rfl rfl ?_
              refine awp_ret ?_
              cases hr
              exact kret' rfl (.cons (res_tmp rfl) (.cons (res_cellN rfl rfl ty_api_Fault rfl rfl) .nil)) rfl
end Go.Proofs.Ytlpmbmilnoncdaa

/- A function of the program computes what its Lean function does. Written by program. -/
namespace Go.Proofs.Ytlpmbmilnoncdaa
open Go.RowKit
set_option maxRecDepth 100000
set_option maxHeartbeats 40000000
set_option linter.unusedVariables false
theorem alias_Loops_run (a0 : List TAlias) (r : (List Str) × TFault) (hr : alias_Loops a0 = some r) : Run Try.prog 33 [.l TAlias.pc a0] (.tup [.l cS r.1, .agg [.i r.2.Code, .i r.2.Index]]) := by
  unfold alias_Loops at hr
  refine run_of_awp (fn := Try.f33) ⟨Try.func33, rfl, by kernel_rfl⟩ rfl (fun _ => rfl) fun g0 hg => ?_
  refine awp_seq ?_
  refine awp_region ?_
  refine awpl_op rfl (opTo_q (d := 2) rfl rfl ev_assign) ?_
  refine awpl_op rfl (opTo_alloc (k := 3) 3 rfl ty_api_Fault (.inr ⟨rfl, rfl⟩) rfl rfl rfl) ?_
  refine awpl_nil ?_
  refine kthen_normal ?_
  refine awp_seq ?_
  refine awp_seq ?_
  refine awp_region ?_
  refine awpl_op rfl (opTo_q (d := 9) rfl rfl ev_move) ?_
  obtain ⟨v1, h2, hr⟩ := bind_some hr
  refine awpl_op rfl (opTo_call (k := 10) (alias_Validate_run a0 v1 h2) rfl rfl) ?_
  refine awpl_op rfl (opTo_alloc (k := 4) 4 rfl ty_api_Fault (.inr ⟨rfl, rfl⟩) rfl rfl rfl) ?_
  refine awpl_op rfl (opTo_store rfl rfl rfl ty_api_Fault rfl rfl) ?_
  refine awpl_nil ?_
  refine kthen_normal ?_
  refine awp_seq ?_
  refine awp_region ?_
  refine awpl_op rfl (opTo_q (d := 11) rfl rfl (ev_loadN rfl rfl ty_api_Fault rfl rfl)) ?_
  obtain ⟨v3, h4, hr⟩ := bind_some hr
  refine awpl_op rfl (opTo_call (k := 12) (basic_Failed_run v1 v3 h4) rfl rfl) ?_
  refine awpl_nil ?_
  refine kthen_normal ?_
  refine awp_cond rfl (fun c5 => ?_) (fun c5 => ?_)
  · replace hr := cond_t c5 hr
    refine awp_seq ?_
    refine awp_drawn 2 [(2, .pv (.sl (some true) [])), (13, .agg [.i v1.Code, .i v1.Index])] mixed (by kernel_rfl) rfl rfl (.run (.plain rfl) (opG_q (ev_loadN rfl rfl ty_api_Fault rfl rfl)) (.run (.plain rfl) (opG_q ev_assign) .nil)) rfl ?_
    refine awpl_op rfl (opTo_store rfl rfl rfl ty_api_Fault rfl rfl) ?_
    refine awpl_nil ?_
    refine kthen_normal ?_
    refine awp_ret ?_
    refine kthen_ret ?_
    cases hr
    exact kret' rfl (.cons (res_tmp rfl) (.cons (res_cellN rfl rfl ty_api_Fault rfl rfl) .nil)) rfl
  · replace hr := cond_f c5 hr
    refine awp_skip ?_
    refine kthen_normal ?_
    refine awp_seq ?_
    refine awp_region ?_
    refine awpl_op rfl (opTo_alloc (k := 5) 5 rfl ty_s_string (.inl rfl) rfl rfl rfl) ?_
    refine awpl_adoptC 1005 (o := 5) (j := 0) 9 1 rfl rfl rfl rfl ?_
    refine awpl_nil ?_
    refine kthen_normal ?_
    refine awp_seq ?_
    refine awp_seq ?_
    refine awp_region ?_
    refine awpl_op rfl (opTo_q (d := 14) rfl rfl ev_move) ?_
    refine awpl_op rfl (opTo_q (d := 15) rfl rfl (ev_llen (f := TAlias.pc) rfl ty_s_api_Alias.u)) ?_
    refine awpl_op rfl (opTo_q (d := 16) rfl rfl ev_move) ?_
    refine awpl_nil ?_
    refine kthen_normal ?_
    refine awp_block ?_
    obtain ⟨b7, hl, hr⟩ := bind_some hr
    refine awp_loop (alias_Loops_l1 a0) (fun s6 => [(0, .l TAlias.pc a0), (3, .ptr 3 0), (5, .ptr 5 0), (14, .l TAlias.pc a0), (15, .i ((a0.length : Int))), (16, .i s6.1)]) (fun s6 => [(1005, .row 9 false 1 (List.map cS s6.2)), (5, .cells [.hs 1005 0]), (3, .cells [.i 0, .i 0])]) (fun b7 => At (.exit 0) [(3, .ptr 3 0), (5, .ptr 5 0)] [(1005, .row 9 false 1 (List.map cS b7)), (5, .cells [.hs 1005 0]), (3, .cells [.i 0, .i 0])]) ?_ ((0, ([] : List Str))) hl (frLe_cons rfl (frLe_cons rfl (frLe_cons rfl (frLe_cons rfl (frLe_cons rfl (frLe_cons rfl frLe_nil)))))) (stoLe_cons rfl (stoLe_cons rfl (stoLe_cons rfl stoLe_nil))) ?_
    · intro s6 x8 hr
      unfold alias_Loops_l1 at hr
      refine awp_seq ?_
      refine awp_region ?_
      refine awpl_op rfl (opTo_q (d := 17) rfl rfl (ev_lss rfl rfl)) ?_
      refine awpl_nil ?_
      refine kthen_normal ?_
      refine awp_seq ?_
      refine awp_cond rfl (fun c9 => ?_) (fun c9 => ?_)
      · replace hr := cond_t c9 hr
        refine awp_skip ?_
        refine kthen_normal ?_
        obtain ⟨j10, hx, hy⟩ := bind_some hr
        refine awp_join (fun j10 => [(0, .l TAlias.pc a0), (3, .ptr 3 0), (5, .ptr 5 0), (14, .l TAlias.pc a0), (15, .i ((a0.length : Int))), (16, .i s6.1)]) (fun j10 => [(1005, .row 9 false 1 (List.map cS j10)), (5, .cells [.hs 1005 0]), (3, .cells [.i 0, .i 0])]) (fun z => j10 = z) ?_ ?_
        · have hr := hx
          clear hx hy
          refine awp_block ?_
          refine awp_seq ?_
          refine awp_region ?_
          obtain ⟨v11, h12, hr⟩ := bind_some hr
          refine awpl_op rfl (opTo_q (d := 18) rfl rfl (ev_idx (f := TAlias.pc) rfl rfl ty_s_api_Alias ty_api_Alias rfl h12)) ?_
          refine awpl_op rfl (opTo_q (d := 19) rfl rfl (ev_load_epN rfl ty_api_Alias rfl rfl)) ?_
          refine awpl_op rfl (opTo_alloc (k := 7) 7 rfl ty_api_Alias (.inr ⟨rfl, rfl⟩) rfl rfl rfl) ?_
          refine awpl_op rfl (opTo_store rfl rfl rfl ty_api_Alias rfl rfl) ?_
          refine awpl_nil ?_
          refine kthen_normal ?_
          refine awp_seq ?_
          refine awp_region ?_
          refine awpl_op rfl (opTo_q (d := 20) rfl rfl ev_move) ?_
          refine awpl_op rfl (opTo_q (d := 21) rfl rfl (ev_fieldAddr rfl ty_api_Alias.u rfl ty_s_string rfl)) ?_
          refine awpl_op rfl (opTo_q (d := 22) rfl rfl (ev_load rfl rfl ty_s_string rfl rfl)) ?_
          refine awpl_inl (fn := Try.f48) (args := [.l TAlias.pc a0, .l cS v11.To]) 5100000 5199999 [(0, .l TAlias.pc a0), (3, .ptr 3 0), (5, .ptr 5 0), (7, .ptr 7 0), (14, .l TAlias.pc a0), (15, .i ((a0.length : Int))), (16, .i s6.1)] (wanted_plain rfl) rfl ⟨Try.func48, rfl, by kernel_rfl⟩ rfl rfl (.cons rfl (.cons rfl (.cons rfl (.cons rfl (.cons rfl (.cons rfl (.cons rfl .nil))))))) fun T51 ds51 hT51 => ?_
          refine awp_seq ?_
          refine awp_region ?_
          refine awpl_op rfl (opTo_box (k := 2) 2 rfl rfl rfl rfl rfl) ?_
          refine awpl_op rfl (opTo_box (k := 3) 1003 rfl rfl rfl rfl rfl) ?_
          refine awpl_op rfl (opTo_q (d := 4) rfl rfl ev_assign) ?_
          refine awpl_nil ?_
          refine kthen_normal ?_
          refine awp_seq ?_
          refine awp_region ?_
          refine awpl_op rfl (opTo_q (d := 5) rfl rfl (ev_makeFunc rfl rfl)) ?_
          refine awpl_op rfl (opTo_q (d := 4) rfl rfl ev_assign) ?_
          refine awpl_nil ?_
          refine kthen_normal ?_
          refine awp_ret ?_
          refine inlK (cs := [.fn (.func 61) [] [.ptr 2 0, .ptr 1003 0]]) (fr'' := [(0, .l TAlias.pc a0), (3, .ptr 3 0), (5, .ptr 5 0), (7, .ptr 7 0), (14, .l TAlias.pc a0), (15, .i ((a0.length : Int))), (16, .i s6.1)]) (σ'' := [(1003, .cells [.l cS v11.To]), (2, .cells [.l TAlias.pc a0]), (7, .cells [.s v11.Address, .l cS v11.To]), (1005, .row 9 false 1 (List.map cS s6.2)), (5, .cells [.hs 1005 0]), (3, .cells [.i 0, .i 0])]) (.inl rfl) frLe_refl stoLe_refl (.cons (res_tmp rfl) .nil) (.cons rfl (.cons rfl (.cons rfl (.cons rfl (.cons rfl (.cons rfl (.cons rfl .nil))))))) rfl (stoLe_cons rfl (stoLe_cons rfl (stoLe_cons rfl (stoLe_cons rfl (stoLe_cons rfl (stoLe_cons rfl stoLe_nil)))))) ?_
          refine awpl_nil ?_
          refine kthen_normal ?_
          refine awp_block ?_
          refine awp_rangef (fn0 := Try.f61) 5200000 5299998 5299999 [(0, .l TAlias.pc a0), (3, .ptr 3 0), (5, .ptr 5 0), (7, .ptr 7 0), (14, .l TAlias.pc a0), (15, .i ((a0.length : Int))), (16, .i s6.1), (23, .fn (.func 61) [] [.ptr 2 0, .ptr 1003 0])] rfl rfl rfl ⟨Try.func61, rfl, by kernel_rfl⟩ rfl rfl rfl rfl rfl (.cons rfl (.cons rfl (.cons rfl (.cons rfl (.cons rfl (.cons rfl (.cons rfl (.cons rfl .nil)))))))) fun T52 b52 L52 ds52 hT52 hLs52 hLp52 hLt52 hLq52 hLa52 hLb52 => ?_
          refine awp_seq ?_
          refine awp_region ?_
          refine awpl_op rfl (opTo_q (d := 9) rfl rfl (ev_load rfl rfl ty_s_api_Alias rfl rfl)) ?_
          refine awpl_inl (fn := Try.f47) (args := [.l TAlias.pc a0]) 5300000 5399999 [(0, .fn (.yield b52) [] []), (2, .ptr 1003 0)] (wanted_plain rfl) rfl ⟨Try.func47, rfl, by kernel_rfl⟩ rfl rfl (.cons rfl (.cons rfl .nil)) fun T53 ds53 hT53 => ?_
          refine awp_seq ?_
          refine awp_region ?_
          refine awpl_op rfl (opTo_q (d := 2) rfl rfl ev_assign) ?_
          refine awpl_nil ?_
          refine kthen_normal ?_
          refine awp_seq ?_
          refine awp_region ?_
          refine awpl_op rfl (opTo_makeMap (k0 := 6) 1006 false rfl rfl rfl) ?_
          refine awpl_op rfl (opTo_q (d := 3) rfl rfl ev_assign) ?_
          refine awpl_nil ?_
          refine kthen_normal ?_
          refine awp_seq ?_
          refine awp_seq ?_
          refine awp_region ?_
          refine awpl_op rfl (opTo_q (d := 7) rfl rfl ev_move) ?_
          refine awpl_op rfl (opTo_q (d := 8) rfl rfl (ev_llen (f := TAlias.pc) rfl ty_s_api_Alias.u)) ?_
          refine awpl_op rfl (opTo_q (d := 9) rfl rfl ev_move) ?_
          refine awpl_nil ?_
          refine kthen_normal ?_
          refine awp_block ?_
          obtain ⟨b14, hl, hr⟩ := bind_some hr
          refine awp_loop (alias_Loops_l2 a0) (fun s13 => [(3, .mp 1006), (7, .l TAlias.pc a0), (8, .i ((a0.length : Int))), (9, .i s13.1)]) (fun s13 => [(1006, .mapo false (menc keyS (cL cS) s13.2)), (5399999, .sus g0.w.heap.size ds53), (5300000, .hold (.fn (.yield b52) [] []) (T53.getD 0 undef)), (5300002, .hold (.ptr 1003 0) (T53.getD 2 undef)), (5299999, .sus g0.w.heap.size ds52), (5299998, .lp b52 L52), (5200000, .hold (.l TAlias.pc a0) (T52.getD 0 undef)), (5200003, .hold (.ptr 3 0) (T52.getD 3 undef)), (5200005, .hold (.ptr 5 0) (T52.getD 5 undef)), (5200007, .hold (.ptr 7 0) (T52.getD 7 undef)), (5200014, .hold (.l TAlias.pc a0) (T52.getD 14 undef)), (5200015, .hold (.i ((a0.length : Int))) (T52.getD 15 undef)), (5200016, .hold (.i s6.1) (T52.getD 16 undef)), (5200023, .hold (.fn (.func 61) [] [.ptr 2 0, .ptr 1003 0]) (T52.getD 23 undef)), (1003, .cells [.l cS v11.To]), (2, .cells [.l TAlias.pc a0]), (7, .cells [.s v11.Address, .l cS v11.To]), (1005, .row 9 false 1 (List.map cS s6.2)), (5, .cells [.hs 1005 0]), (3, .cells [.i 0, .i 0])]) (fun b14 => At (.exit 0) [(3, .mp 1006)] [(1006, .mapo false (menc keyS (cL cS) b14)), (5399999, .sus g0.w.heap.size ds53), (5300000, .hold (.fn (.yield b52) [] []) (T53.getD 0 undef)), (5300002, .hold (.ptr 1003 0) (T53.getD 2 undef)), (5299999, .sus g0.w.heap.size ds52), (5299998, .lp b52 L52), (5200000, .hold (.l TAlias.pc a0) (T52.getD 0 undef)), (5200003, .hold (.ptr 3 0) (T52.getD 3 undef)), (5200005, .hold (.ptr 5 0) (T52.getD 5 undef)), (5200007, .hold (.ptr 7 0) (T52.getD 7 undef)), (5200014, .hold (.l TAlias.pc a0) (T52.getD 14 undef)), (5200015, .hold (.i ((a0.length : Int))) (T52.getD 15 undef)), (5200016, .hold (.i s6.1) (T52.getD 16 undef)), (5200023, .hold (.fn (.func 61) [] [.ptr 2 0, .ptr 1003 0]) (T52.getD 23 undef)), (1003, .cells [.l cS v11.To]), (2, .cells [.l TAlias.pc a0]), (7, .cells [.s v11.Address, .l cS v11.To]), (1005, .row 9 false 1 (List.map cS s6.2)), (5, .cells [.hs 1005 0]), (3, .cells [.i 0, .i 0])]) ?_ ((0, ([] : List (Str × (List Str))))) hl (frLe_cons rfl (frLe_cons rfl (frLe_cons rfl (frLe_cons rfl frLe_nil)))) (stoLe_cons rfl (stoLe_cons rfl (stoLe_cons rfl (stoLe_cons rfl (stoLe_cons rfl (stoLe_cons rfl (stoLe_cons rfl (stoLe_cons rfl (stoLe_cons rfl (stoLe_cons rfl (stoLe_cons rfl (stoLe_cons rfl (stoLe_cons rfl (stoLe_cons rfl (stoLe_cons rfl (stoLe_cons rfl (stoLe_cons rfl (stoLe_cons rfl (stoLe_cons rfl (stoLe_cons rfl stoLe_nil)))))))))))))))))))) ?_
          · intro s13 x15 hr
            unfold alias_Loops_l2 at hr
            refine awp_seq ?_
            refine awp_region ?_
            refine awpl_op rfl (opTo_q (d := 10) rfl rfl (ev_lss rfl rfl)) ?_
            refine awpl_nil ?_
            refine kthen_normal ?_
            refine awp_seq ?_
            refine awp_cond rfl (fun c16 => ?_) (fun c16 => ?_)
            · replace hr := cond_t c16 hr
              refine awp_skip ?_
              refine kthen_normal ?_
              refine awp_seq ?_
              refine awp_block ?_
              refine awp_seq ?_
              refine awp_region ?_
              obtain ⟨v17, h18, hr⟩ := bind_some hr
              refine awpl_op rfl (opTo_q (d := 11) rfl rfl (ev_idx (f := TAlias.pc) rfl rfl ty_s_api_Alias ty_api_Alias rfl h18)) ?_
              refine awpl_op rfl (opTo_q (d := 12) rfl rfl (ev_load_epN rfl ty_api_Alias rfl rfl)) ?_
              refine awpl_op rfl (opTo_alloc (k := 5) 2005 rfl ty_api_Alias (.inr ⟨rfl, rfl⟩) rfl rfl rfl) ?_
              refine awpl_op rfl (opTo_store rfl rfl rfl ty_api_Alias rfl rfl) ?_
              refine awpl_nil ?_
              refine kthen_normal ?_
              refine awp_region ?_
              refine awpl_op rfl (opTo_q (d := 13) rfl rfl ev_move) ?_
              refine awpl_op rfl (opTo_q (d := 14) rfl rfl (ev_fieldAddr rfl ty_api_Alias.u rfl ty_string rfl)) ?_
              refine awpl_op rfl (opTo_q (d := 15) rfl rfl (ev_load rfl rfl ty_string rfl rfl)) ?_
              refine awpl_op rfl (opTo_q (d := 16) rfl rfl (ev_fieldAddr rfl ty_api_Alias.u rfl ty_s_string rfl)) ?_
              refine awpl_op rfl (opTo_q (d := 17) rfl rfl (ev_load rfl rfl ty_s_string rfl rfl)) ?_
              refine awpl_op rfl (opTo_mapUpdate (KK := keyS) (F := (cL cS)) (es := s13.2) (k := v17.Address) (v := v17.To) rfl rfl rfl rfl rfl ty_map_string_s_string.u ty_string.u) ?_
              refine awpl_nil ?_
              refine kblock_normal ?_
              refine kthen_normal ?_
              refine awp_region ?_
              refine awpl_op rfl (opTo_q (d := 18) rfl rfl (ev_add rfl rfl)) ?_
              refine awpl_op rfl (opTo_q (d := 9) rfl rfl ev_move) ?_
              refine awpl_nil ?_
              cases hr
              exact ⟨rfl, (frLe_cons rfl (frLe_cons rfl (frLe_cons rfl (frLe_cons rfl frLe_nil)))), (stoLe_cons rfl (stoLe_cons rfl (stoLe_cons rfl (stoLe_cons rfl (stoLe_cons rfl (stoLe_cons rfl (stoLe_cons rfl (stoLe_cons rfl (stoLe_cons rfl (stoLe_cons rfl (stoLe_cons rfl (stoLe_cons rfl (stoLe_cons rfl (stoLe_cons rfl (stoLe_cons rfl (stoLe_cons rfl (stoLe_cons rfl (stoLe_cons rfl (stoLe_cons rfl (stoLe_cons rfl stoLe_nil))))))))))))))))))))⟩
            · replace hr := cond_f c16 hr
              refine awp_exit ?_
              refine kthen_exit ?_
              cases hr
              exact ⟨by simp, rfl, (frLe_cons rfl frLe_nil), (stoLe_cons rfl (stoLe_cons rfl (stoLe_cons rfl (stoLe_cons rfl (stoLe_cons rfl (stoLe_cons rfl (stoLe_cons rfl (stoLe_cons rfl (stoLe_cons rfl (stoLe_cons rfl (stoLe_cons rfl (stoLe_cons rfl (stoLe_cons rfl (stoLe_cons rfl (stoLe_cons rfl (stoLe_cons rfl (stoLe_cons rfl (stoLe_cons rfl (stoLe_cons rfl (stoLe_cons rfl stoLe_nil))))))))))))))))))))⟩
          · intro e fr2 st2 hq
            obtain ⟨rfl, hf, hs⟩ := hq
            refine kblock_exit ?_
            refine kthen_normal ?_
            refine awp_le hf hs ?_
            refine awp_seq ?_
            refine awp_region ?_
            refine awpl_op rfl (opTo_q (d := 19) rfl rfl ev_move) ?_
            refine awpl_op rfl (opTo_q (d := 2) rfl rfl ev_assign) ?_
            refine awpl_nil ?_
            refine kthen_normal ?_
            refine awp_ret ?_
            refine inlK (cs := [.mp 1006]) (fr'' := [(0, .fn (.yield b52) [] []), (2, .ptr 1003 0)]) (σ'' := [(1006, .mapo false (menc keyS (cL cS) b14)), (5299999, .sus g0.w.heap.size ds52), (5299998, .lp b52 L52), (5200000, .hold (.l TAlias.pc a0) (T52.getD 0 undef)), (5200003, .hold (.ptr 3 0) (T52.getD 3 undef)), (5200005, .hold (.ptr 5 0) (T52.getD 5 undef)), (5200007, .hold (.ptr 7 0) (T52.getD 7 undef)), (5200014, .hold (.l TAlias.pc a0) (T52.getD 14 undef)), (5200015, .hold (.i ((a0.length : Int))) (T52.getD 15 undef)), (5200016, .hold (.i s6.1) (T52.getD 16 undef)), (5200023, .hold (.fn (.func 61) [] [.ptr 2 0, .ptr 1003 0]) (T52.getD 23 undef)), (1003, .cells [.l cS v11.To]), (2, .cells [.l TAlias.pc a0]), (7, .cells [.s v11.Address, .l cS v11.To]), (1005, .row 9 false 1 (List.map cS s6.2)), (5, .cells [.hs 1005 0]), (3, .cells [.i 0, .i 0])]) (.inl rfl) frLe_refl stoLe_refl (.cons (res_tmp rfl) .nil) (.cons rfl (.cons rfl .nil)) rfl (stoLe_cons rfl (stoLe_cons rfl (stoLe_cons rfl (stoLe_cons rfl (stoLe_cons rfl (stoLe_cons rfl (stoLe_cons rfl (stoLe_cons rfl (stoLe_cons rfl (stoLe_cons rfl (stoLe_cons rfl (stoLe_cons rfl (stoLe_cons rfl (stoLe_cons rfl (stoLe_cons rfl (stoLe_cons rfl (stoLe_cons rfl stoLe_nil))))))))))))))))) ?_
            refine awpl_op rfl (opTo_q (d := 4) rfl rfl ev_assign) ?_
            refine awpl_nil ?_
            refine kthen_normal ?_
            refine awp_seq ?_
            refine awp_region ?_
            refine awpl_op rfl (opTo_makeMap (k0 := 11) 1011 false rfl rfl rfl) ?_
            refine awpl_op rfl (opTo_alloc (k := 5) 2005 rfl ty_map_string_bool (.inl rfl) rfl rfl rfl) ?_
            refine awpl_op rfl (opTo_store rfl rfl rfl ty_map_string_bool rfl rfl) ?_
            refine awpl_nil ?_
            refine kthen_normal ?_
            refine awp_seq ?_
            refine awp_region ?_
            refine awpl_op rfl (opTo_alloc (k := 6) 6 rfl ty_s_string (.inl rfl) rfl rfl rfl) ?_
            refine awpl_adoptC 2006 (o := 6) (j := 0) 9 1 rfl rfl rfl rfl ?_
            refine awpl_nil ?_
            refine kthen_normal ?_
            refine awp_seq ?_
            refine awp_region ?_
            refine awpl_op rfl (opTo_q (d := 12) rfl rfl (ev_makeFunc rfl rfl)) ?_
            refine awpl_op rfl (opTo_q (d := 7) rfl rfl ev_assign) ?_
            refine awpl_nil ?_
            refine kthen_normal ?_
            refine awp_seq ?_
            refine awp_region ?_
            refine awpl_op rfl (opTo_q (d := 13) rfl rfl ev_move) ?_
            refine awpl_op rfl (opTo_q (d := 14) rfl rfl (ev_load rfl rfl ty_s_string rfl rfl)) ?_
            refine awpl_inl (fn := Try.f62) (args := [.l cS v11.To, .ptr 2005 0, .ptr 6 0]) 5400000 5499999 [(0, .fn (.yield b52) [] []), (4, .mp 1006), (6, .ptr 6 0), (7, .fn (.func 62) [] [.ptr 2005 0, .ptr 6 0])] (wanted_plain rfl) rfl ⟨Try.func62, rfl, by kernel_rfl⟩ rfl rfl (.cons rfl (.cons rfl (.cons rfl (.cons rfl .nil)))) fun T54 ds54 hT54 => ?_
            refine awp_seq ?_
            refine awp_region ?_
            refine awpl_op rfl (opTo_q (d := 6) rfl rfl ev_move) ?_
            refine awpl_op rfl (opTo_q (d := 7) rfl rfl (ev_llen (f := cS) rfl ty_s_string.u)) ?_
            refine awpl_op rfl (opTo_q (d := 8) rfl rfl ev_move) ?_
            refine awpl_nil ?_
            refine kthen_normal ?_
            refine awp_block ?_
            obtain ⟨b20, hl, hr⟩ := bind_some hr
            refine awp_loop (alias_Loops_l3 v11) (fun s19 => [(1, .ptr 2005 0), (2, .ptr 6 0), (6, .l cS v11.To), (7, .i ((v11.To.length : Int))), (8, .i s19.1)]) (fun s19 => [(5499999, .sus g0.w.heap.size ds54), (5400000, .hold (.fn (.yield b52) [] []) (T54.getD 0 undef)), (5400004, .hold (.mp 1006) (T54.getD 4 undef)), (5400006, .hold (.ptr 6 0) (T54.getD 6 undef)), (5400007, .hold (.fn (.func 62) [] [.ptr 2005 0, .ptr 6 0]) (T54.getD 7 undef)), (2006, .row 9 false 1 (List.map cS s19.2.1)), (6, .cells [.hs 2006 0]), (2005, .cells [.mp 1011]), (1011, .mapo false (menc keyS cB s19.2.2)), (1006, .mapo false (menc keyS (cL cS) b14)), (5299999, .sus g0.w.heap.size ds52), (5299998, .lp b52 L52), (5200000, .hold (.l TAlias.pc a0) (T52.getD 0 undef)), (5200003, .hold (.ptr 3 0) (T52.getD 3 undef)), (5200005, .hold (.ptr 5 0) (T52.getD 5 undef)), (5200007, .hold (.ptr 7 0) (T52.getD 7 undef)), (5200014, .hold (.l TAlias.pc a0) (T52.getD 14 undef)), (5200015, .hold (.i ((a0.length : Int))) (T52.getD 15 undef)), (5200016, .hold (.i s6.1) (T52.getD 16 undef)), (5200023, .hold (.fn (.func 61) [] [.ptr 2 0, .ptr 1003 0]) (T52.getD 23 undef)), (1003, .cells [.l cS v11.To]), (2, .cells [.l TAlias.pc a0]), (7, .cells [.s v11.Address, .l cS v11.To]), (1005, .row 9 false 1 (List.map cS s6.2)), (5, .cells [.hs 1005 0]), (3, .cells [.i 0, .i 0])]) (fun b20 => At (.exit 0) [] [(5499999, .sus g0.w.heap.size ds54), (5400000, .hold (.fn (.yield b52) [] []) (T54.getD 0 undef)), (5400004, .hold (.mp 1006) (T54.getD 4 undef)), (5400006, .hold (.ptr 6 0) (T54.getD 6 undef)), (5400007, .hold (.fn (.func 62) [] [.ptr 2005 0, .ptr 6 0]) (T54.getD 7 undef)), (2006, .row 9 false 1 (List.map cS b20.1)), (6, .cells [.hs 2006 0]), (2005, .cells [.mp 1011]), (1011, .mapo false (menc keyS cB b20.2)), (1006, .mapo false (menc keyS (cL cS) b14)), (5299999, .sus g0.w.heap.size ds52), (5299998, .lp b52 L52), (5200000, .hold (.l TAlias.pc a0) (T52.getD 0 undef)), (5200003, .hold (.ptr 3 0) (T52.getD 3 undef)), (5200005, .hold (.ptr 5 0) (T52.getD 5 undef)), (5200007, .hold (.ptr 7 0) (T52.getD 7 undef)), (5200014, .hold (.l TAlias.pc a0) (T52.getD 14 undef)), (5200015, .hold (.i ((a0.length : Int))) (T52.getD 15 undef)), (5200016, .hold (.i s6.1) (T52.getD 16 undef)), (5200023, .hold (.fn (.func 61) [] [.ptr 2 0, .ptr 1003 0]) (T52.getD 23 undef)), (1003, .cells [.l cS v11.To]), (2, .cells [.l TAlias.pc a0]), (7, .cells [.s v11.Address, .l cS v11.To]), (1005, .row 9 false 1 (List.map cS s6.2)), (5, .cells [.hs 1005 0]), (3, .cells [.i 0, .i 0])]) ?_ ((0, ([] : List Str), ([] : List (Str × Bool)))) hl (frLe_cons rfl (frLe_cons rfl (frLe_cons rfl (frLe_cons rfl (frLe_cons rfl frLe_nil))))) (stoLe_cons rfl (stoLe_cons rfl (stoLe_cons rfl (stoLe_cons rfl (stoLe_cons rfl (stoLe_cons rfl (stoLe_cons rfl (stoLe_cons rfl (stoLe_cons rfl (stoLe_cons rfl (stoLe_cons rfl (stoLe_cons rfl (stoLe_cons rfl (stoLe_cons rfl (stoLe_cons rfl (stoLe_cons rfl (stoLe_cons rfl (stoLe_cons rfl (stoLe_cons rfl (stoLe_cons rfl (stoLe_cons rfl (stoLe_cons rfl (stoLe_cons rfl (stoLe_cons rfl (stoLe_cons rfl (stoLe_cons rfl stoLe_nil)))))))))))))))))))))))))) ?_
            · intro s19 x21 hr
              unfold alias_Loops_l3 at hr
              refine awp_seq ?_
              refine awp_region ?_
              refine awpl_op rfl (opTo_q (d := 9) rfl rfl (ev_lss rfl rfl)) ?_
              refine awpl_nil ?_
              refine kthen_normal ?_
              refine awp_seq ?_
              refine awp_cond rfl (fun c22 => ?_) (fun c22 => ?_)
              · replace hr := cond_t c22 hr
                refine awp_skip ?_
                refine kthen_normal ?_
                obtain ⟨j23, hx, hy⟩ := bind_some hr
                refine awp_join (fun j23 => [(1, .ptr 2005 0), (2, .ptr 6 0), (6, .l cS v11.To), (7, .i ((v11.To.length : Int))), (8, .i s19.1)]) (fun j23 => [(5499999, .sus g0.w.heap.size ds54), (5400000, .hold (.fn (.yield b52) [] []) (T54.getD 0 undef)), (5400004, .hold (.mp 1006) (T54.getD 4 undef)), (5400006, .hold (.ptr 6 0) (T54.getD 6 undef)), (5400007, .hold (.fn (.func 62) [] [.ptr 2005 0, .ptr 6 0]) (T54.getD 7 undef)), (2006, .row 9 false 1 (List.map cS j23.1)), (6, .cells [.hs 2006 0]), (2005, .cells [.mp 1011]), (1011, .mapo false (menc keyS cB j23.2)), (1006, .mapo false (menc keyS (cL cS) b14)), (5299999, .sus g0.w.heap.size ds52), (5299998, .lp b52 L52), (5200000, .hold (.l TAlias.pc a0) (T52.getD 0 undef)), (5200003, .hold (.ptr 3 0) (T52.getD 3 undef)), (5200005, .hold (.ptr 5 0) (T52.getD 5 undef)), (5200007, .hold (.ptr 7 0) (T52.getD 7 undef)), (5200014, .hold (.l TAlias.pc a0) (T52.getD 14 undef)), (5200015, .hold (.i ((a0.length : Int))) (T52.getD 15 undef)), (5200016, .hold (.i s6.1) (T52.getD 16 undef)), (5200023, .hold (.fn (.func 61) [] [.ptr 2 0, .ptr 1003 0]) (T52.getD 23 undef)), (1003, .cells [.l cS v11.To]), (2, .cells [.l TAlias.pc a0]), (7, .cells [.s v11.Address, .l cS v11.To]), (1005, .row 9 false 1 (List.map cS s6.2)), (5, .cells [.hs 1005 0]), (3, .cells [.i 0, .i 0])]) (fun z => j23 = z) ?_ ?_
                · have hr := hx
                  clear hx hy
                  refine awp_block ?_
                  refine awp_seq ?_
                  refine awp_region ?_
                  obtain ⟨v24, h25, hr⟩ := bind_some hr
                  refine awpl_op rfl (opTo_q (d := 10) rfl rfl (ev_idx (f := cS) rfl rfl ty_s_string ty_string rfl h25)) ?_
                  refine awpl_op rfl (opTo_q (d := 11) rfl rfl (ev_load_ep rfl ty_string rfl rfl)) ?_
                  refine awpl_op rfl (opTo_q (d := 5) rfl rfl ev_assign) ?_
                  refine awpl_nil ?_
                  refine kthen_normal ?_
                  refine awp_seq ?_
                  refine awp_region ?_
                  refine awpl_op rfl (opTo_q (d := 12) rfl rfl (ev_load rfl rfl ty_map_string_bool rfl rfl)) ?_
                  refine awpl_op rfl (opTo_q (d := 13) rfl rfl ev_move) ?_
                  refine awpl_op rfl (opTo_q (d := 14) rfl rfl (ev_lookup (KK := keyS) (F := cB) (es := s19.2.2) (k := v24) (z := false) rfl rfl rfl ty_map_string_bool.u ty_string.u ty_bool rfl)) ?_
                  refine awpl_op rfl (opTo_q (d := 15) rfl rfl (ev_not rfl)) ?_
                  refine awpl_nil ?_
                  refine kthen_normal ?_
                  refine awp_cond rfl (fun c26 => ?_) (fun c26 => ?_)
                  · replace hr := cond_t c26 hr
                    refine awp_seq ?_
                    refine awp_region ?_
                    refine awpl_op rfl (opTo_q (d := 16) rfl rfl (ev_load rfl rfl ty_map_string_bool rfl rfl)) ?_
                    refine awpl_op rfl (opTo_q (d := 17) rfl rfl ev_move) ?_
                    refine awpl_op rfl (opTo_mapUpdate (KK := keyS) (F := cB) (es := s19.2.2) (k := v24) (v := true) rfl rfl rfl rfl rfl ty_map_string_bool.u ty_string.u) ?_
                    refine awpl_nil ?_
                    refine kthen_normal ?_
                    refine awp_region ?_
                    refine awpl_op rfl (opTo_q (d := 18) rfl rfl (ev_load rfl rfl ty_s_string rfl rfl)) ?_
                    refine awpl_op rfl (opTo_q (d := 19) rfl rfl ev_move) ?_
                    refine awpl_op rfl (opTo_g (d := 20) rfl rfl (opG_lit (F := cS) (l := ([v24] : List Str)) ty_s_string ty_string rfl (fun _ => rfl) rfl rfl)) ?_
                    obtain ⟨v27, h28, hr⟩ := bind_some hr
                    refine awpl_op rfl (opTo_append (k := 21) (F := cS) (l := s19.2.1) (xs := (([v24] : List Str))) (lim := 8796093022208) rfl rfl rfl rfl ty_s_string ty_string rfl rfl (fun _ => rfl) rfl h28) ?_
                    refine awpl_op rfl (opTo_store rfl rfl rfl ty_s_string rfl rfl) ?_
                    refine awpl_nil ?_
                    refine kblock_normal ?_
                    cases hr
                    exact joinK_normal _ rfl (frLe_cons rfl (frLe_cons rfl (frLe_cons rfl (frLe_cons rfl (frLe_cons rfl frLe_nil))))) (stoLe_cons rfl (stoLe_cons rfl (stoLe_cons rfl (stoLe_cons rfl (stoLe_cons rfl (stoLe_cons rfl (stoLe_cons rfl (stoLe_cons rfl (stoLe_cons rfl (stoLe_cons rfl (stoLe_cons rfl (stoLe_cons rfl (stoLe_cons rfl (stoLe_cons rfl (stoLe_cons rfl (stoLe_cons rfl (stoLe_cons rfl (stoLe_cons rfl (stoLe_cons rfl (stoLe_cons rfl (stoLe_cons rfl (stoLe_cons rfl (stoLe_cons rfl (stoLe_cons rfl (stoLe_cons rfl (stoLe_cons rfl stoLe_nil))))))))))))))))))))))))))
                  · replace hr := cond_f c26 hr
                    refine awp_skip ?_
                    refine kblock_normal ?_
                    cases hr
                    exact joinK_normal _ rfl (frLe_cons rfl (frLe_cons rfl (frLe_cons rfl (frLe_cons rfl (frLe_cons rfl frLe_nil))))) (stoLe_cons rfl (stoLe_cons rfl (stoLe_cons rfl (stoLe_cons rfl (stoLe_cons rfl (stoLe_cons rfl (stoLe_cons rfl (stoLe_cons rfl (stoLe_cons rfl (stoLe_cons rfl (stoLe_cons rfl (stoLe_cons rfl (stoLe_cons rfl (stoLe_cons rfl (stoLe_cons rfl (stoLe_cons rfl (stoLe_cons rfl (stoLe_cons rfl (stoLe_cons rfl (stoLe_cons rfl (stoLe_cons rfl (stoLe_cons rfl (stoLe_cons rfl (stoLe_cons rfl (stoLe_cons rfl (stoLe_cons rfl stoLe_nil))))))))))))))))))))))))))
                · rintro _ rfl
                  have hr := hy
                  clear hx hy
                  refine awp_region ?_
                  refine awpl_op rfl (opTo_q (d := 22) rfl rfl (ev_add rfl rfl)) ?_
                  refine awpl_op rfl (opTo_q (d := 8) rfl rfl ev_move) ?_
                  refine awpl_nil ?_
                  cases hr
                  exact ⟨rfl, (frLe_cons rfl (frLe_cons rfl (frLe_cons rfl (frLe_cons rfl (frLe_cons rfl frLe_nil))))), (stoLe_cons rfl (stoLe_cons rfl (stoLe_cons rfl (stoLe_cons rfl (stoLe_cons rfl (stoLe_cons rfl (stoLe_cons rfl (stoLe_cons rfl (stoLe_cons rfl (stoLe_cons rfl (stoLe_cons rfl (stoLe_cons rfl (stoLe_cons rfl (stoLe_cons rfl (stoLe_cons rfl (stoLe_cons rfl (stoLe_cons rfl (stoLe_cons rfl (stoLe_cons rfl (stoLe_cons rfl (stoLe_cons rfl (stoLe_cons rfl (stoLe_cons rfl (stoLe_cons rfl (stoLe_cons rfl (stoLe_cons rfl stoLe_nil))))))))))))))))))))))))))⟩
              · replace hr := cond_f c22 hr
                refine awp_exit ?_
                refine kthen_exit ?_
                cases hr
                exact ⟨by simp, rfl, frLe_nil, (stoLe_cons rfl (stoLe_cons rfl (stoLe_cons rfl (stoLe_cons rfl (stoLe_cons rfl (stoLe_cons rfl (stoLe_cons rfl (stoLe_cons rfl (stoLe_cons rfl (stoLe_cons rfl (stoLe_cons rfl (stoLe_cons rfl (stoLe_cons rfl (stoLe_cons rfl (stoLe_cons rfl (stoLe_cons rfl (stoLe_cons rfl (stoLe_cons rfl (stoLe_cons rfl (stoLe_cons rfl (stoLe_cons rfl (stoLe_cons rfl (stoLe_cons rfl (stoLe_cons rfl (stoLe_cons rfl (stoLe_cons rfl stoLe_nil))))))))))))))))))))))))))⟩
            · intro e fr2 st2 hq
              obtain ⟨rfl, hf, hs⟩ := hq
              refine kblock_exit ?_
              refine inlK (cs := []) (fr'' := [(0, .fn (.yield b52) [] []), (4, .mp 1006), (6, .ptr 6 0), (7, .fn (.func 62) [] [.ptr 2005 0, .ptr 6 0])]) (σ'' := [(2006, .row 9 false 1 (List.map cS b20.1)), (6, .cells [.hs 2006 0]), (2005, .cells [.mp 1011]), (1011, .mapo false (menc keyS cB b20.2)), (1006, .mapo false (menc keyS (cL cS) b14)), (5299999, .sus g0.w.heap.size ds52), (5299998, .lp b52 L52), (5200000, .hold (.l TAlias.pc a0) (T52.getD 0 undef)), (5200003, .hold (.ptr 3 0) (T52.getD 3 undef)), (5200005, .hold (.ptr 5 0) (T52.getD 5 undef)), (5200007, .hold (.ptr 7 0) (T52.getD 7 undef)), (5200014, .hold (.l TAlias.pc a0) (T52.getD 14 undef)), (5200015, .hold (.i ((a0.length : Int))) (T52.getD 15 undef)), (5200016, .hold (.i s6.1) (T52.getD 16 undef)), (5200023, .hold (.fn (.func 61) [] [.ptr 2 0, .ptr 1003 0]) (T52.getD 23 undef)), (1003, .cells [.l cS v11.To]), (2, .cells [.l TAlias.pc a0]), (7, .cells [.s v11.Address, .l cS v11.To]), (1005, .row 9 false 1 (List.map cS s6.2)), (5, .cells [.hs 1005 0]), (3, .cells [.i 0, .i 0])]) (.inr rfl) hf hs .nil (.cons rfl (.cons rfl (.cons rfl (.cons rfl .nil)))) rfl (stoLe_cons rfl (stoLe_cons rfl (stoLe_cons rfl (stoLe_cons rfl (stoLe_cons rfl (stoLe_cons rfl (stoLe_cons rfl (stoLe_cons rfl (stoLe_cons rfl (stoLe_cons rfl (stoLe_cons rfl (stoLe_cons rfl (stoLe_cons rfl (stoLe_cons rfl (stoLe_cons rfl (stoLe_cons rfl (stoLe_cons rfl (stoLe_cons rfl (stoLe_cons rfl (stoLe_cons rfl (stoLe_cons rfl stoLe_nil))))))))))))))))))))) ?_
              refine awpl_nil ?_
              refine kthen_normal ?_
              refine awp_block ?_
              obtain ⟨o32, hl, hr⟩ := bind_some hr
              refine awp_loop (alias_Loops_l4 s6 v11 b14) (fun s29 => [(0, .fn (.yield b52) [] []), (4, .mp 1006), (6, .ptr 6 0), (7, .fn (.func 62) [] [.ptr 2005 0, .ptr 6 0])]) (fun s29 => [(2006, .row 9 false 1 (List.map cS s29.1)), (6, .cells [.hs 2006 0]), (2005, .cells [.mp 1011]), (1011, .mapo false (menc keyS cB s29.2)), (1006, .mapo false (menc keyS (cL cS) b14)), (5299999, .sus g0.w.heap.size ds52), (5299998, .lp b52 L52), (5200000, .hold (.l TAlias.pc a0) (T52.getD 0 undef)), (5200003, .hold (.ptr 3 0) (T52.getD 3 undef)), (5200005, .hold (.ptr 5 0) (T52.getD 5 undef)), (5200007, .hold (.ptr 7 0) (T52.getD 7 undef)), (5200014, .hold (.l TAlias.pc a0) (T52.getD 14 undef)), (5200015, .hold (.i ((a0.length : Int))) (T52.getD 15 undef)), (5200016, .hold (.i s6.1) (T52.getD 16 undef)), (5200023, .hold (.fn (.func 61) [] [.ptr 2 0, .ptr 1003 0]) (T52.getD 23 undef)), (1003, .cells [.l cS v11.To]), (2, .cells [.l TAlias.pc a0]), (7, .cells [.s v11.Address, .l cS v11.To]), (1005, .row 9 false 1 (List.map cS s6.2)), (5, .cells [.hs 1005 0]), (3, .cells [.i 0, .i 0])]) (fun o => match o with | .inl b30 => At (.exit 0) [] [(5299999, .sus g0.w.heap.size ds52), (5299998, .lp b52 L52), (5200000, .hold (.l TAlias.pc a0) (T52.getD 0 undef)), (5200003, .hold (.ptr 3 0) (T52.getD 3 undef)), (5200005, .hold (.ptr 5 0) (T52.getD 5 undef)), (5200007, .hold (.ptr 7 0) (T52.getD 7 undef)), (5200014, .hold (.l TAlias.pc a0) (T52.getD 14 undef)), (5200015, .hold (.i ((a0.length : Int))) (T52.getD 15 undef)), (5200016, .hold (.i s6.1) (T52.getD 16 undef)), (5200023, .hold (.fn (.func 61) [] [.ptr 2 0, .ptr 1003 0]) (T52.getD 23 undef)), (1003, .cells [.l cS v11.To]), (2, .cells [.l TAlias.pc a0]), (7, .cells [.s v11.Address, .l cS v11.To]), (1005, .row 9 false 1 (List.map cS s6.2)), (5, .cells [.hs 1005 0]), (3, .cells [.i 0, .i 0])] | .inr b31 => At .ret [] [(5299999, .sus g0.w.heap.size ds52), (5299998, .lp b52 ((stop L52 (.exit 2)))), (5200000, .hold (.l TAlias.pc a0) (T52.getD 0 undef)), (5200003, .hold (.ptr 3 0) (T52.getD 3 undef)), (5200005, .hold (.ptr 5 0) (T52.getD 5 undef)), (5200007, .hold (.ptr 7 0) (T52.getD 7 undef)), (5200014, .hold (.l TAlias.pc a0) (T52.getD 14 undef)), (5200015, .hold (.i ((a0.length : Int))) (T52.getD 15 undef)), (5200016, .hold (.i s6.1) (T52.getD 16 undef)), (5200023, .hold (.fn (.func 61) [] [.ptr 2 0, .ptr 1003 0]) (T52.getD 23 undef)), (1003, .cells [.l cS v11.To]), (2, .cells [.l TAlias.pc a0]), (7, .cells [.s v11.Address, .l cS v11.To]), (1005, .row 9 false 1 (List.map cS b31)), (5, .cells [.hs 1005 0]), (3, .cells [.i 0, .i 0])]) ?_ ((b20.1, b20.2)) hl (frLe_cons rfl (frLe_cons rfl (frLe_cons rfl (frLe_cons rfl frLe_nil)))) (stoLe_cons rfl (stoLe_cons rfl (stoLe_cons rfl (stoLe_cons rfl (stoLe_cons rfl (stoLe_cons rfl (stoLe_cons rfl (stoLe_cons rfl (stoLe_cons rfl (stoLe_cons rfl (stoLe_cons rfl (stoLe_cons rfl (stoLe_cons rfl (stoLe_cons rfl (stoLe_cons rfl (stoLe_cons rfl (stoLe_cons rfl (stoLe_cons rfl (stoLe_cons rfl (stoLe_cons rfl (stoLe_cons rfl stoLe_nil))))))))))))))))))))) ?_
              · intro s29 x33 hr
                unfold alias_Loops_l4 at hr
                refine awp_seq ?_
                refine awp_seq ?_
                refine awp_region ?_
                refine awpl_op rfl (opTo_q (d := 16) rfl rfl (ev_load rfl rfl ty_s_string rfl rfl)) ?_
                refine awpl_op rfl (opTo_q (d := 17) rfl rfl (ev_hlen (F := cS) rfl rfl ty_s_string.u)) ?_
                refine awpl_op rfl (opTo_q (d := 18) rfl rfl (ev_gtr rfl rfl)) ?_
                refine awpl_nil ?_
                refine kthen_normal ?_
                refine awp_cond rfl (fun c34 => ?_) (fun c34 => ?_)
                · replace hr := cond_t c34 hr
                  refine awp_skip ?_
                  refine kthen_normal ?_
                  refine awp_block ?_
                  refine awp_seq ?_
                  refine awp_region ?_
                  refine awpl_op rfl (opTo_q (d := 19) rfl rfl (ev_load rfl rfl ty_s_string rfl rfl)) ?_
                  refine awpl_pub (d := 19) (F := cS) (l := s29.1) rfl rfl ?_
                  obtain ⟨v35, h36, hr⟩ := bind_some hr
                  refine awpl_op rfl (opTo_q (d := 20) rfl rfl (ev_idx (f := cS) rfl rfl ty_s_string ty_string rfl h36)) ?_
                  refine awpl_op rfl (opTo_q (d := 21) rfl rfl (ev_load_ep rfl ty_string rfl rfl)) ?_
                  refine awpl_op rfl (opTo_q (d := 8) rfl rfl ev_assign) ?_
                  refine awpl_nil ?_
                  refine kthen_normal ?_
                  refine awp_seq ?_
                  refine awp_region ?_
                  refine awpl_op rfl (opTo_q (d := 22) rfl rfl (ev_load rfl rfl ty_s_string rfl rfl)) ?_
                  obtain ⟨v37, h38, hr⟩ := bind_some hr
                  refine awpl_op rfl (opTo_hcutL (k := 23) (F := cS) (l := s29.1) rfl rfl rfl rfl ty_s_string ty_string h38) ?_
                  refine awpl_op rfl (opTo_store rfl rfl rfl ty_s_string rfl rfl) ?_
                  refine awpl_nil ?_
                  refine kthen_normal ?_
                  refine awp_seq ?_
                  refine awp_seq ?_
                  refine awp_region ?_
                  refine awpl_op rfl (opTo_q (d := 24) rfl rfl ev_move) ?_
                  refine awpl_op rfl (opTo_q (d := 25) rfl rfl ev_move) ?_
                  refine awpl_yieldf (ps := [24]) (args := [.s v35]) 5200000 5900000 5299998 5999999 [(0, .l TAlias.pc a0), (3, .ptr 3 0), (5, .ptr 5 0), (7, .ptr 7 0), (14, .l TAlias.pc a0), (15, .i ((a0.length : Int))), (16, .i s6.1), (23, .fn (.func 61) [] [.ptr 2 0, .ptr 1003 0])] [(0, .fn (.yield b52) [] []), (4, .mp 1006), (6, .ptr 6 0), (7, .fn (.func 62) [] [.ptr 2005 0, .ptr 6 0]), (8, .s v35)] (wanted_plain rfl) rfl rfl hLs52 hLp52 hLt52 hLq52 hLa52 hLb52 hT52 rfl rfl rfl rfl (.cons rfl (.cons rfl (.cons rfl (.cons rfl (.cons rfl .nil))))) (.cons rfl (.cons rfl (.cons rfl (.cons rfl (.cons rfl (.cons rfl (.cons rfl (.cons rfl .nil)))))))) fun T59 ds59 hT59 => ?_
                  refine awp_region ?_
                  refine awpl_op rfl (opTo_q (d := 8) rfl rfl ev_assign) ?_
                  refine awpl_nil ?_
                  refine asgK frLe_refl stoLe_refl rfl ?_
                  refine awp_block ?_
                  refine awp_seq ?_
                  refine awp_region ?_
                  refine awpl_op rfl (opTo_q (d := 25) rfl rfl ev_move) ?_
                  refine awpl_op rfl (opTo_q (d := 26) rfl rfl (ev_fieldAddr rfl ty_api_Alias.u rfl ty_string rfl)) ?_
                  refine awpl_op rfl (opTo_q (d := 27) rfl rfl (ev_load rfl rfl ty_string rfl rfl)) ?_
                  refine awpl_op rfl (opTo_q (d := 28) rfl rfl (ev_seql (a := v35) (b := v11.Address) rfl rfl)) ?_
                  refine awpl_nil ?_
                  refine kthen_normal ?_
                  refine awp_cond rfl (fun c39 => ?_) (fun c39 => ?_)
                  · replace hr := cond_t c39 hr
                    refine awp_seq ?_
                    refine awp_region ?_
                    refine awpl_op rfl (opTo_q (d := 29) rfl rfl (ev_load rfl rfl ty_s_string rfl rfl)) ?_
                    refine awpl_op rfl (opTo_q (d := 30) rfl rfl ev_move) ?_
                    refine awpl_op rfl (opTo_g (d := 31) rfl rfl (opG_lit (F := cS) (l := ([v35] : List Str)) ty_s_string ty_string rfl (fun _ => rfl) rfl rfl)) ?_
                    obtain ⟨v40, h41, hr⟩ := bind_some hr
                    refine awpl_op rfl (opTo_append (k := 32) (F := cS) (l := s6.2) (xs := (([v35] : List Str))) (lim := 8796093022208) rfl rfl rfl rfl ty_s_string ty_string rfl rfl (fun _ => rfl) rfl h41) ?_
                    refine awpl_op rfl (opTo_store rfl rfl rfl ty_s_string rfl rfl) ?_
                    refine awpl_nil ?_
                    refine kthen_normal ?_
                    refine awp_exit ?_
                    refine kblock_other rfl ?_
                    refine rndK (fr'' := [(0, .fn (.yield b52) [] []), (4, .mp 1006), (6, .ptr 6 0), (7, .fn (.func 62) [] [.ptr 2005 0, .ptr 6 0]), (8, .s v35)]) (σ'' := [(2006, .row 9 false 1 (List.map cS v37)), (6, .cells [.hs 2006 0]), (2005, .cells [.mp 1011]), (1011, .mapo false (menc keyS cB s29.2)), (1006, .mapo false (menc keyS (cL cS) b14)), (5299999, .sus g0.w.heap.size ds52), (5299998, .lp b52 ((stop L52 (.exit 2)))), (5200000, .hold (.l TAlias.pc a0) (T52.getD 0 undef)), (5200003, .hold (.ptr 3 0) (T52.getD 3 undef)), (5200005, .hold (.ptr 5 0) (T52.getD 5 undef)), (5200007, .hold (.ptr 7 0) (T52.getD 7 undef)), (5200014, .hold (.l TAlias.pc a0) (T52.getD 14 undef)), (5200015, .hold (.i ((a0.length : Int))) (T52.getD 15 undef)), (5200016, .hold (.i s6.1) (T52.getD 16 undef)), (5200023, .hold (.fn (.func 61) [] [.ptr 2 0, .ptr 1003 0]) (T52.getD 23 undef)), (1003, .cells [.l cS v11.To]), (2, .cells [.l TAlias.pc a0]), (7, .cells [.s v11.Address, .l cS v11.To]), (1005, .row 9 false 1 (List.map cS v40)), (5, .cells [.hs 1005 0]), (3, .cells [.i 0, .i 0])]) (.exit 2) stoLe_refl rfl (.cons rfl (.cons rfl (.cons rfl (.cons rfl (.cons rfl .nil))))) rfl (stoLe_cons rfl (stoLe_cons rfl (stoLe_cons rfl (stoLe_cons rfl (stoLe_cons rfl (stoLe_cons rfl (stoLe_cons rfl (stoLe_cons rfl (stoLe_cons rfl (stoLe_cons rfl (stoLe_cons rfl (stoLe_cons rfl (stoLe_cons rfl (stoLe_cons rfl (stoLe_cons rfl (stoLe_cons rfl (stoLe_cons rfl (stoLe_cons rfl (stoLe_cons rfl (stoLe_cons rfl (stoLe_cons rfl stoLe_nil))))))))))))))))))))) ?_
                    refine awpl_op rfl (opTo_q (d := 27) rfl rfl (ev_not rfl)) ?_
                    refine awpl_nil ?_
                    refine kthen_normal ?_
                    refine awp_cond (t := true) rfl (fun _ => ?_) (fun h => nomatch h)
                    refine awp_ret ?_
                    refine kthen_ret ?_
                    refine kblock_ret ?_
                    cases hr
                    exact ⟨by simp, rfl, frLe_nil, (stoLe_cons rfl (stoLe_cons rfl (stoLe_cons rfl (stoLe_cons rfl (stoLe_cons rfl (stoLe_cons rfl (stoLe_cons rfl (stoLe_cons rfl (stoLe_cons rfl (stoLe_cons rfl (stoLe_cons rfl (stoLe_cons rfl (stoLe_cons rfl (stoLe_cons rfl (stoLe_cons rfl (stoLe_cons rfl stoLe_nil))))))))))))))))⟩
                  · replace hr := cond_f c39 hr
                    refine awp_skip ?_
                    refine kblock_normal ?_
                    refine rndK (fr'' := [(0, .fn (.yield b52) [] []), (4, .mp 1006), (6, .ptr 6 0), (7, .fn (.func 62) [] [.ptr 2005 0, .ptr 6 0]), (8, .s v35)]) (σ'' := [(2006, .row 9 false 1 (List.map cS v37)), (6, .cells [.hs 2006 0]), (2005, .cells [.mp 1011]), (1011, .mapo false (menc keyS cB s29.2)), (1006, .mapo false (menc keyS (cL cS) b14)), (5299999, .sus g0.w.heap.size ds52), (5299998, .lp b52 L52), (5200000, .hold (.l TAlias.pc a0) (T52.getD 0 undef)), (5200003, .hold (.ptr 3 0) (T52.getD 3 undef)), (5200005, .hold (.ptr 5 0) (T52.getD 5 undef)), (5200007, .hold (.ptr 7 0) (T52.getD 7 undef)), (5200014, .hold (.l TAlias.pc a0) (T52.getD 14 undef)), (5200015, .hold (.i ((a0.length : Int))) (T52.getD 15 undef)), (5200016, .hold (.i s6.1) (T52.getD 16 undef)), (5200023, .hold (.fn (.func 61) [] [.ptr 2 0, .ptr 1003 0]) (T52.getD 23 undef)), (1003, .cells [.l cS v11.To]), (2, .cells [.l TAlias.pc a0]), (7, .cells [.s v11.Address, .l cS v11.To]), (1005, .row 9 false 1 (List.map cS s6.2)), (5, .cells [.hs 1005 0]), (3, .cells [.i 0, .i 0])]) .off stoLe_refl rfl (.cons rfl (.cons rfl (.cons rfl (.cons rfl (.cons rfl .nil))))) rfl (stoLe_cons rfl (stoLe_cons rfl (stoLe_cons rfl (stoLe_cons rfl (stoLe_cons rfl (stoLe_cons rfl (stoLe_cons rfl (stoLe_cons rfl (stoLe_cons rfl (stoLe_cons rfl (stoLe_cons rfl (stoLe_cons rfl (stoLe_cons rfl (stoLe_cons rfl (stoLe_cons rfl (stoLe_cons rfl (stoLe_cons rfl (stoLe_cons rfl (stoLe_cons rfl (stoLe_cons rfl (stoLe_cons rfl stoLe_nil))))))))))))))))))))) ?_
                    refine awpl_op rfl (opTo_q (d := 27) rfl rfl (ev_not rfl)) ?_
                    refine awpl_nil ?_
                    refine kthen_normal ?_
                    refine awp_cond (t := false) rfl (fun h => nomatch h) (fun _ => ?_)
                    refine awp_skip ?_
                    refine kthen_normal ?_
                    refine awp_region ?_
                    refine awpl_op rfl (opTo_q (d := 28) rfl rfl ev_move) ?_
                    refine awpl_op rfl (opTo_q (d := 29) rfl rfl ev_move) ?_
                    refine awpl_op rfl (opTo_q (d := 30) rfl rfl ev_move) ?_
                    refine awpl_op rfl (opTo_q (d := 31) rfl rfl (ev_lookup (KK := keyS) (F := (cL cS)) (es := b14) (k := v35) (z := (([] : List Str))) rfl rfl rfl ty_map_string_s_string.u ty_string.u ty_s_string rfl)) ?_
                    refine awpl_inl (fn := Try.f62) (args := [.l cS (((mget b14 v35).getD (([] : List Str)))), .ptr 2005 0, .ptr 6 0]) 6000000 6099999 [(0, .fn (.yield b52) [] []), (4, .mp 1006), (6, .ptr 6 0), (7, .fn (.func 62) [] [.ptr 2005 0, .ptr 6 0])] (wanted_plain rfl) rfl ⟨Try.func62, rfl, by kernel_rfl⟩ rfl rfl (.cons rfl (.cons rfl (.cons rfl (.cons rfl .nil)))) fun T60 ds60 hT60 => ?_
                    refine awp_seq ?_
                    refine awp_region ?_
                    refine awpl_op rfl (opTo_q (d := 6) rfl rfl ev_move) ?_
                    refine awpl_op rfl (opTo_q (d := 7) rfl rfl (ev_llen (f := cS) rfl ty_s_string.u)) ?_
                    refine awpl_op rfl (opTo_q (d := 8) rfl rfl ev_move) ?_
                    refine awpl_nil ?_
                    refine kthen_normal ?_
                    refine awp_block ?_
                    obtain ⟨b43, hl, hr⟩ := bind_some hr
                    refine awp_loop (alias_Loops_l5 b14 v35) (fun s42 => [(1, .ptr 2005 0), (2, .ptr 6 0), (6, .l cS (((mget b14 v35).getD (([] : List Str))))), (7, .i (((((mget b14 v35).getD (([] : List Str)))).length : Int))), (8, .i s42.1)]) (fun s42 => [(6099999, .sus g0.w.heap.size ds60), (6000000, .hold (.fn (.yield b52) [] []) (T60.getD 0 undef)), (6000004, .hold (.mp 1006) (T60.getD 4 undef)), (6000006, .hold (.ptr 6 0) (T60.getD 6 undef)), (6000007, .hold (.fn (.func 62) [] [.ptr 2005 0, .ptr 6 0]) (T60.getD 7 undef)), (2006, .row 9 false 1 (List.map cS s42.2.1)), (6, .cells [.hs 2006 0]), (2005, .cells [.mp 1011]), (1011, .mapo false (menc keyS cB s42.2.2)), (1006, .mapo false (menc keyS (cL cS) b14)), (5299999, .sus g0.w.heap.size ds52), (5299998, .lp b52 L52), (5200000, .hold (.l TAlias.pc a0) (T52.getD 0 undef)), (5200003, .hold (.ptr 3 0) (T52.getD 3 undef)), (5200005, .hold (.ptr 5 0) (T52.getD 5 undef)), (5200007, .hold (.ptr 7 0) (T52.getD 7 undef)), (5200014, .hold (.l TAlias.pc a0) (T52.getD 14 undef)), (5200015, .hold (.i ((a0.length : Int))) (T52.getD 15 undef)), (5200016, .hold (.i s6.1) (T52.getD 16 undef)), (5200023, .hold (.fn (.func 61) [] [.ptr 2 0, .ptr 1003 0]) (T52.getD 23 undef)), (1003, .cells [.l cS v11.To]), (2, .cells [.l TAlias.pc a0]), (7, .cells [.s v11.Address, .l cS v11.To]), (1005, .row 9 false 1 (List.map cS s6.2)), (5, .cells [.hs 1005 0]), (3, .cells [.i 0, .i 0])]) (fun b43 => At (.exit 0) [] [(6099999, .sus g0.w.heap.size ds60), (6000000, .hold (.fn (.yield b52) [] []) (T60.getD 0 undef)), (6000004, .hold (.mp 1006) (T60.getD 4 undef)), (6000006, .hold (.ptr 6 0) (T60.getD 6 undef)), (6000007, .hold (.fn (.func 62) [] [.ptr 2005 0, .ptr 6 0]) (T60.getD 7 undef)), (2006, .row 9 false 1 (List.map cS b43.1)), (6, .cells [.hs 2006 0]), (2005, .cells [.mp 1011]), (1011, .mapo false (menc keyS cB b43.2)), (1006, .mapo false (menc keyS (cL cS) b14)), (5299999, .sus g0.w.heap.size ds52), (5299998, .lp b52 L52), (5200000, .hold (.l TAlias.pc a0) (T52.getD 0 undef)), (5200003, .hold (.ptr 3 0) (T52.getD 3 undef)), (5200005, .hold (.ptr 5 0) (T52.getD 5 undef)), (5200007, .hold (.ptr 7 0) (T52.getD 7 undef)), (5200014, .hold (.l TAlias.pc a0) (T52.getD 14 undef)), (5200015, .hold (.i ((a0.length : Int))) (T52.getD 15 undef)), (5200016, .hold (.i s6.1) (T52.getD 16 undef)), (5200023, .hold (.fn (.func 61) [] [.ptr 2 0, .ptr 1003 0]) (T52.getD 23 undef)), (1003, .cells [.l cS v11.To]), (2, .cells [.l TAlias.pc a0]), (7, .cells [.s v11.Address, .l cS v11.To]), (1005, .row 9 false 1 (List.map cS s6.2)), (5, .cells [.hs 1005 0]), (3, .cells [.i 0, .i 0])]) ?_ ((0, v37, s29.2)) hl (frLe_cons rfl (frLe_cons rfl (frLe_cons rfl (frLe_cons rfl (frLe_cons rfl frLe_nil))))) (stoLe_cons rfl (stoLe_cons rfl (stoLe_cons rfl (stoLe_cons rfl (stoLe_cons rfl (stoLe_cons rfl (stoLe_cons rfl (stoLe_cons rfl (stoLe_cons rfl (stoLe_cons rfl (stoLe_cons rfl (stoLe_cons rfl (stoLe_cons rfl (stoLe_cons rfl (stoLe_cons rfl (stoLe_cons rfl (stoLe_cons rfl (stoLe_cons rfl (stoLe_cons rfl (stoLe_cons rfl (stoLe_cons rfl (stoLe_cons rfl (stoLe_cons rfl (stoLe_cons rfl (stoLe_cons rfl (stoLe_cons rfl stoLe_nil)))))))))))))))))))))))))) ?_
                    · intro s42 x44 hr
                      unfold alias_Loops_l5 at hr
                      refine awp_seq ?_
                      refine awp_region ?_
                      refine awpl_op rfl (opTo_q (d := 9) rfl rfl (ev_lss rfl rfl)) ?_
                      refine awpl_nil ?_
                      refine kthen_normal ?_
                      refine awp_seq ?_
                      refine awp_cond rfl (fun c45 => ?_) (fun c45 => ?_)
                      · replace hr := cond_t c45 hr
                        refine awp_skip ?_
                        refine kthen_normal ?_
                        obtain ⟨j46, hx, hy⟩ := bind_some hr
                        refine awp_join (fun j46 => [(1, .ptr 2005 0), (2, .ptr 6 0), (6, .l cS (((mget b14 v35).getD (([] : List Str))))), (7, .i (((((mget b14 v35).getD (([] : List Str)))).length : Int))), (8, .i s42.1)]) (fun j46 => [(6099999, .sus g0.w.heap.size ds60), (6000000, .hold (.fn (.yield b52) [] []) (T60.getD 0 undef)), (6000004, .hold (.mp 1006) (T60.getD 4 undef)), (6000006, .hold (.ptr 6 0) (T60.getD 6 undef)), (6000007, .hold (.fn (.func 62) [] [.ptr 2005 0, .ptr 6 0]) (T60.getD 7 undef)), (2006, .row 9 false 1 (List.map cS j46.1)), (6, .cells [.hs 2006 0]), (2005, .cells [.mp 1011]), (1011, .mapo false (menc keyS cB j46.2)), (1006, .mapo false (menc keyS (cL cS) b14)), (5299999, .sus g0.w.heap.size ds52), (5299998, .lp b52 L52), (5200000, .hold (.l TAlias.pc a0) (T52.getD 0 undef)), (5200003, .hold (.ptr 3 0) (T52.getD 3 undef)), (5200005, .hold (.ptr 5 0) (T52.getD 5 undef)), (5200007, .hold (.ptr 7 0) (T52.getD 7 undef)), (5200014, .hold (.l TAlias.pc a0) (T52.getD 14 undef)), (5200015, .hold (.i ((a0.length : Int))) (T52.getD 15 undef)), (5200016, .hold (.i s6.1) (T52.getD 16 undef)), (5200023, .hold (.fn (.func 61) [] [.ptr 2 0, .ptr 1003 0]) (T52.getD 23 undef)), (1003, .cells [.l cS v11.To]), (2, .cells [.l TAlias.pc a0]), (7, .cells [.s v11.Address, .l cS v11.To]), (1005, .row 9 false 1 (List.map cS s6.2)), (5, .cells [.hs 1005 0]), (3, .cells [.i 0, .i 0])]) (fun z => j46 = z) ?_ ?_
                        · have hr := hx
                          clear hx hy
                          refine awp_block ?_
                          refine awp_seq ?_
                          refine awp_region ?_
                          obtain ⟨v47, h48, hr⟩ := bind_some hr
                          refine awpl_op rfl (opTo_q (d := 10) rfl rfl (ev_idx (f := cS) rfl rfl ty_s_string ty_string rfl h48)) ?_
                          refine awpl_op rfl (opTo_q (d := 11) rfl rfl (ev_load_ep rfl ty_string rfl rfl)) ?_
                          refine awpl_op rfl (opTo_q (d := 5) rfl rfl ev_assign) ?_
                          refine awpl_nil ?_
                          refine kthen_normal ?_
                          refine awp_seq ?_
                          refine awp_region ?_
                          refine awpl_op rfl (opTo_q (d := 12) rfl rfl (ev_load rfl rfl ty_map_string_bool rfl rfl)) ?_
                          refine awpl_op rfl (opTo_q (d := 13) rfl rfl ev_move) ?_
                          refine awpl_op rfl (opTo_q (d := 14) rfl rfl (ev_lookup (KK := keyS) (F := cB) (es := s42.2.2) (k := v47) (z := false) rfl rfl rfl ty_map_string_bool.u ty_string.u ty_bool rfl)) ?_
                          refine awpl_op rfl (opTo_q (d := 15) rfl rfl (ev_not rfl)) ?_
                          refine awpl_nil ?_
                          refine kthen_normal ?_
                          refine awp_cond rfl (fun c49 => ?_) (fun c49 => ?_)
                          · replace hr := cond_t c49 hr
                            refine awp_seq ?_
                            refine awp_region ?_
                            refine awpl_op rfl (opTo_q (d := 16) rfl rfl (ev_load rfl rfl ty_map_string_bool rfl rfl)) ?_
                            refine awpl_op rfl (opTo_q (d := 17) rfl rfl ev_move) ?_
                            refine awpl_op rfl (opTo_mapUpdate (KK := keyS) (F := cB) (es := s42.2.2) (k := v47) (v := true) rfl rfl rfl rfl rfl ty_map_string_bool.u ty_string.u) ?_
                            refine awpl_nil ?_
                            refine kthen_normal ?_
                            refine awp_region ?_
                            refine awpl_op rfl (opTo_q (d := 18) rfl rfl (ev_load rfl rfl ty_s_string rfl rfl)) ?_
                            refine awpl_op rfl (opTo_q (d := 19) rfl rfl ev_move) ?_
                            refine awpl_op rfl (opTo_g (d := 20) rfl rfl (opG_lit (F := cS) (l := ([v47] : List Str)) ty_s_string ty_string rfl (fun _ => rfl) rfl rfl)) ?_
                            obtain ⟨v50, h51, hr⟩ := bind_some hr
                            refine awpl_op rfl (opTo_append (k := 21) (F := cS) (l := s42.2.1) (xs := (([v47] : List Str))) (lim := 8796093022208) rfl rfl rfl rfl ty_s_string ty_string rfl rfl (fun _ => rfl) rfl h51) ?_
                            refine awpl_op rfl (opTo_store rfl rfl rfl ty_s_string rfl rfl) ?_
                            refine awpl_nil ?_
                            refine kblock_normal ?_
                            cases hr
                            exact joinK_normal _ rfl (frLe_cons rfl (frLe_cons rfl (frLe_cons rfl (frLe_cons rfl (frLe_cons rfl frLe_nil))))) (stoLe_cons rfl (stoLe_cons rfl (stoLe_cons rfl (stoLe_cons rfl (stoLe_cons rfl (stoLe_cons rfl (stoLe_cons rfl (stoLe_cons rfl (stoLe_cons rfl (stoLe_cons rfl (stoLe_cons rfl (stoLe_cons rfl (stoLe_cons rfl (stoLe_cons rfl (stoLe_cons rfl (stoLe_cons rfl (stoLe_cons rfl (stoLe_cons rfl (stoLe_cons rfl (stoLe_cons rfl (stoLe_cons rfl (stoLe_cons rfl (stoLe_cons rfl (stoLe_cons rfl (stoLe_cons rfl (stoLe_cons rfl stoLe_nil))))))))))))))))))))))))))
                          · replace hr := cond_f c49 hr
                            refine awp_skip ?_
                            refine kblock_normal ?_
                            cases hr
                            exact joinK_normal _ rfl (frLe_cons rfl (frLe_cons rfl (frLe_cons rfl (frLe_cons rfl (frLe_cons rfl frLe_nil))))) (stoLe_cons rfl (stoLe_cons rfl (stoLe_cons rfl (stoLe_cons rfl (stoLe_cons rfl (stoLe_cons rfl (stoLe_cons rfl (stoLe_cons rfl (stoLe_cons rfl (stoLe_cons rfl (stoLe_cons rfl (stoLe_cons rfl (stoLe_cons rfl (stoLe_cons rfl (stoLe_cons rfl (stoLe_cons rfl (stoLe_cons rfl (stoLe_cons rfl (stoLe_cons rfl (stoLe_cons rfl (stoLe_cons rfl (stoLe_cons rfl (stoLe_cons rfl (stoLe_cons rfl (stoLe_cons rfl (stoLe_cons rfl stoLe_nil))))))))))))))))))))))))))
                        · rintro _ rfl
                          have hr := hy
                          clear hx hy
                          refine awp_region ?_
                          refine awpl_op rfl (opTo_q (d := 22) rfl rfl (ev_add rfl rfl)) ?_
                          refine awpl_op rfl (opTo_q (d := 8) rfl rfl ev_move) ?_
                          refine awpl_nil ?_
                          cases hr
                          exact ⟨rfl, (frLe_cons rfl (frLe_cons rfl (frLe_cons rfl (frLe_cons rfl (frLe_cons rfl frLe_nil))))), (stoLe_cons rfl (stoLe_cons rfl (stoLe_cons rfl (stoLe_cons rfl (stoLe_cons rfl (stoLe_cons rfl (stoLe_cons rfl (stoLe_cons rfl (stoLe_cons rfl (stoLe_cons rfl (stoLe_cons rfl (stoLe_cons rfl (stoLe_cons rfl (stoLe_cons rfl (stoLe_cons rfl (stoLe_cons rfl (stoLe_cons rfl (stoLe_cons rfl (stoLe_cons rfl (stoLe_cons rfl (stoLe_cons rfl (stoLe_cons rfl (stoLe_cons rfl (stoLe_cons rfl (stoLe_cons rfl (stoLe_cons rfl stoLe_nil))))))))))))))))))))))))))⟩
                      · replace hr := cond_f c45 hr
                        refine awp_exit ?_
                        refine kthen_exit ?_
                        cases hr
                        exact ⟨by simp, rfl, frLe_nil, (stoLe_cons rfl (stoLe_cons rfl (stoLe_cons rfl (stoLe_cons rfl (stoLe_cons rfl (stoLe_cons rfl (stoLe_cons rfl (stoLe_cons rfl (stoLe_cons rfl (stoLe_cons rfl (stoLe_cons rfl (stoLe_cons rfl (stoLe_cons rfl (stoLe_cons rfl (stoLe_cons rfl (stoLe_cons rfl (stoLe_cons rfl (stoLe_cons rfl (stoLe_cons rfl (stoLe_cons rfl (stoLe_cons rfl (stoLe_cons rfl (stoLe_cons rfl (stoLe_cons rfl (stoLe_cons rfl (stoLe_cons rfl stoLe_nil))))))))))))))))))))))))))⟩
                    · intro e fr2 st2 hq
                      obtain ⟨rfl, hf, hs⟩ := hq
                      refine kblock_exit ?_
                      refine inlK (cs := []) (fr'' := [(0, .fn (.yield b52) [] []), (4, .mp 1006), (6, .ptr 6 0), (7, .fn (.func 62) [] [.ptr 2005 0, .ptr 6 0])]) (σ'' := [(2006, .row 9 false 1 (List.map cS b43.1)), (6, .cells [.hs 2006 0]), (2005, .cells [.mp 1011]), (1011, .mapo false (menc keyS cB b43.2)), (1006, .mapo false (menc keyS (cL cS) b14)), (5299999, .sus g0.w.heap.size ds52), (5299998, .lp b52 L52), (5200000, .hold (.l TAlias.pc a0) (T52.getD 0 undef)), (5200003, .hold (.ptr 3 0) (T52.getD 3 undef)), (5200005, .hold (.ptr 5 0) (T52.getD 5 undef)), (5200007, .hold (.ptr 7 0) (T52.getD 7 undef)), (5200014, .hold (.l TAlias.pc a0) (T52.getD 14 undef)), (5200015, .hold (.i ((a0.length : Int))) (T52.getD 15 undef)), (5200016, .hold (.i s6.1) (T52.getD 16 undef)), (5200023, .hold (.fn (.func 61) [] [.ptr 2 0, .ptr 1003 0]) (T52.getD 23 undef)), (1003, .cells [.l cS v11.To]), (2, .cells [.l TAlias.pc a0]), (7, .cells [.s v11.Address, .l cS v11.To]), (1005, .row 9 false 1 (List.map cS s6.2)), (5, .cells [.hs 1005 0]), (3, .cells [.i 0, .i 0])]) (.inr rfl) hf hs .nil (.cons rfl (.cons rfl (.cons rfl (.cons rfl .nil)))) rfl (stoLe_cons rfl (stoLe_cons rfl (stoLe_cons rfl (stoLe_cons rfl (stoLe_cons rfl (stoLe_cons rfl (stoLe_cons rfl (stoLe_cons rfl (stoLe_cons rfl (stoLe_cons rfl (stoLe_cons rfl (stoLe_cons rfl (stoLe_cons rfl (stoLe_cons rfl (stoLe_cons rfl (stoLe_cons rfl (stoLe_cons rfl (stoLe_cons rfl (stoLe_cons rfl (stoLe_cons rfl (stoLe_cons rfl stoLe_nil))))))))))))))))))))) ?_
                      refine awpl_nil ?_
                      refine kblock_normal ?_
                      cases hr
                      exact ⟨rfl, (frLe_cons rfl (frLe_cons rfl (frLe_cons rfl (frLe_cons rfl frLe_nil)))), (stoLe_cons rfl (stoLe_cons rfl (stoLe_cons rfl (stoLe_cons rfl (stoLe_cons rfl (stoLe_cons rfl (stoLe_cons rfl (stoLe_cons rfl (stoLe_cons rfl (stoLe_cons rfl (stoLe_cons rfl (stoLe_cons rfl (stoLe_cons rfl (stoLe_cons rfl (stoLe_cons rfl (stoLe_cons rfl (stoLe_cons rfl (stoLe_cons rfl (stoLe_cons rfl (stoLe_cons rfl (stoLe_cons rfl stoLe_nil)))))))))))))))))))))⟩
                · replace hr := cond_f c34 hr
                  refine awp_exit ?_
                  refine kthen_exit ?_
                  cases hr
                  exact ⟨by simp, rfl, frLe_nil, (stoLe_cons rfl (stoLe_cons rfl (stoLe_cons rfl (stoLe_cons rfl (stoLe_cons rfl (stoLe_cons rfl (stoLe_cons rfl (stoLe_cons rfl (stoLe_cons rfl (stoLe_cons rfl (stoLe_cons rfl (stoLe_cons rfl (stoLe_cons rfl (stoLe_cons rfl (stoLe_cons rfl (stoLe_cons rfl stoLe_nil))))))))))))))))⟩
              · intro e fr2 st2 hq
                rcases o32 with b30 | b31
                · obtain ⟨rfl, hf, hs⟩ := hq
                  replace hr := elim_l hr
                  refine kblock_exit ?_
                  refine itrK (L' := L52) (fr'' := [(0, .l TAlias.pc a0), (3, .ptr 3 0), (5, .ptr 5 0), (7, .ptr 7 0), (14, .l TAlias.pc a0), (15, .i ((a0.length : Int))), (16, .i s6.1), (23, .fn (.func 61) [] [.ptr 2 0, .ptr 1003 0])]) (σ'' := [(1003, .cells [.l cS v11.To]), (2, .cells [.l TAlias.pc a0]), (7, .cells [.s v11.Address, .l cS v11.To]), (1005, .row 9 false 1 (List.map cS s6.2)), (5, .cells [.hs 1005 0]), (3, .cells [.i 0, .i 0])]) (.inr rfl) hs rfl (.cons rfl (.cons rfl (.cons rfl (.cons rfl (.cons rfl (.cons rfl (.cons rfl (.cons rfl .nil)))))))) rfl (stoLe_cons rfl (stoLe_cons rfl (stoLe_cons rfl (stoLe_cons rfl (stoLe_cons rfl (stoLe_cons rfl stoLe_nil)))))) rfl ?_
                  refine .off ?_
                  refine kblock_normal ?_
                  refine kblock_normal ?_
                  cases hr
                  exact joinK_normal _ rfl (frLe_cons rfl (frLe_cons rfl (frLe_cons rfl (frLe_cons rfl (frLe_cons rfl (frLe_cons rfl frLe_nil)))))) (stoLe_cons rfl (stoLe_cons rfl (stoLe_cons rfl stoLe_nil)))
                · obtain ⟨rfl, hf, hs⟩ := hq
                  replace hr := elim_r hr
                  refine kblock_ret ?_
                  refine itrK (L' := (stop L52 (.exit 2))) (fr'' := [(0, .l TAlias.pc a0), (3, .ptr 3 0), (5, .ptr 5 0), (7, .ptr 7 0), (14, .l TAlias.pc a0), (15, .i ((a0.length : Int))), (16, .i s6.1), (23, .fn (.func 61) [] [.ptr 2 0, .ptr 1003 0])]) (σ'' := [(1003, .cells [.l cS v11.To]), (2, .cells [.l TAlias.pc a0]), (7, .cells [.s v11.Address, .l cS v11.To]), (1005, .row 9 false 1 (List.map cS b31)), (5, .cells [.hs 1005 0]), (3, .cells [.i 0, .i 0])]) (.inl rfl) hs rfl (.cons rfl (.cons rfl (.cons rfl (.cons rfl (.cons rfl (.cons rfl (.cons rfl (.cons rfl .nil)))))))) rfl (stoLe_cons rfl (stoLe_cons rfl (stoLe_cons rfl (stoLe_cons rfl (stoLe_cons rfl (stoLe_cons rfl stoLe_nil)))))) rfl ?_
                  refine .jump ?_
                  refine awp_exit ?_
                  refine kblock_exit ?_
                  refine kblock_normal ?_
                  cases hr
                  exact joinK_normal _ rfl (frLe_cons rfl (frLe_cons rfl (frLe_cons rfl (frLe_cons rfl (frLe_cons rfl (frLe_cons rfl frLe_nil)))))) (stoLe_cons rfl (stoLe_cons rfl (stoLe_cons rfl stoLe_nil)))
        · rintro _ rfl
          have hr := hy
          clear hx hy
          refine awp_region ?_
          refine awpl_op rfl (opTo_q (d := 33) rfl rfl (ev_add rfl rfl)) ?_
          refine awpl_op rfl (opTo_q (d := 16) rfl rfl ev_move) ?_
          refine awpl_nil ?_
          cases hr
          exact ⟨rfl, (frLe_cons rfl (frLe_cons rfl (frLe_cons rfl (frLe_cons rfl (frLe_cons rfl (frLe_cons rfl frLe_nil)))))), (stoLe_cons rfl (stoLe_cons rfl (stoLe_cons rfl stoLe_nil)))⟩
      · replace hr := cond_f c9 hr
        refine awp_exit ?_
        refine kthen_exit ?_
        cases hr
        exact ⟨by simp, rfl, (frLe_cons rfl (frLe_cons rfl frLe_nil)), (stoLe_cons rfl (stoLe_cons rfl (stoLe_cons rfl stoLe_nil)))⟩
    · intro e fr2 st2 hq
      obtain ⟨rfl, hf, hs⟩ := hq
      refine kblock_exit ?_
      refine kthen_normal ?_
      refine awp_le hf hs ?_
      refine awp_seq ?_
      obtain ⟨v52, h53, hr⟩ := bind_some hr
      refine awp_drawn 2 [(35, .agg [.i v52.Code, .i v52.Index]), (34, .hs 1005 0)] mixed (by kernel_rfl) rfl rfl (.run (.plain rfl) (opG_q (ev_load rfl rfl ty_s_string rfl rfl)) (.run (.plain rfl) (opG_call (basic_None_run  v52 h53) rfl) .nil)) rfl ?_
      refine awpl_op rfl (opTo_q (d := 2) rfl rfl ev_assign) ?_
      refine awpl_op rfl (opTo_store rfl rfl rfl ty_api_Fault rfl rfl) ?_
      refine awpl_nil ?_
      refine kthen_normal ?_
      refine awp_pub (d := 2) (F := cS) (l := b7) rfl rfl ?_
      refine awp_ret ?_
      cases hr
      exact kret' rfl (.cons (res_tmp rfl) (.cons (res_cellN rfl rfl ty_api_Fault rfl rfl) .nil)) rfl
end Go.Proofs.Ytlpmbmilnoncdaa

/- A function of the program computes what its Lean function does. Written by program. -/
namespace Go.Proofs.Ytlpmbmilnoncdaa
open Go.RowKit
set_option maxRecDepth 100000
set_option maxHeartbeats 40000000
set_option linter.unusedVariables false
theorem L_expands_run  (r : Bool) (hr : L_expands = some r) : Run Try.prog 30 [] (.bo r) := by
  unfold L_expands at hr
  refine run_of_awp (fn := Try.f30) ⟨Try.func30, rfl, by kernel_rfl⟩ rfl (fun _ => rfl) fun g0 hg => ?_
  refine awp_seq ?_
  refine awp_region ?_
  refine awpl_op rfl (opTo_q (d := 0) rfl rfl ev_assign) ?_
  refine awpl_nil ?_
  refine kthen_normal ?_
  refine awp_seq ?_
  refine awp_region ?_
  refine awpl_op rfl (opTo_g (d := 8) rfl rfl (opG_lit (F := cS) (l := ([([98, 64, 120] : Str), ([99, 64, 120] : Str)] : List Str)) ty_s_string ty_string rfl (fun _ => rfl) rfl rfl)) ?_
  refine awpl_op rfl (opTo_q (d := 9) rfl rfl (ev_build ty_api_Alias pl_api_Alias (.inr ⟨rfl, rfl⟩) rfl)) ?_
  refine awpl_op rfl (opTo_g (d := 10) rfl rfl (opG_lit (F := cS) (l := ([([97, 64, 120] : Str), ([100, 64, 120] : Str)] : List Str)) ty_s_string ty_string rfl (fun _ => rfl) rfl rfl)) ?_
  refine awpl_op rfl (opTo_q (d := 11) rfl rfl (ev_build ty_api_Alias pl_api_Alias (.inr ⟨rfl, rfl⟩) rfl)) ?_
  refine awpl_op rfl (opTo_g (d := 12) rfl rfl (opG_lit (F := TAlias.pc) (l := ([(TAlias.mk (([97, 64, 120] : Str)) (([([98, 64, 120] : Str), ([99, 64, 120] : Str)] : List Str))), (TAlias.mk (([98, 64, 120] : Str)) (([([97, 64, 120] : Str), ([100, 64, 120] : Str)] : List Str)))] : List TAlias)) ty_s_api_Alias ty_api_Alias rfl (fun _ => rfl) rfl rfl)) ?_
  refine awpl_op rfl (opTo_q (d := 1) rfl rfl ev_assign) ?_
  refine awpl_nil ?_
  refine kthen_normal ?_
  refine awp_seq ?_
  refine awp_region ?_
  refine awpl_op rfl (opTo_q (d := 14) rfl rfl ev_move) ?_
  obtain ⟨v1, h2, hr⟩ := bind_some hr
  refine awpl_op rfl (opTo_call (k := 15) (alias_Expand_run (([(TAlias.mk (([97, 64, 120] : Str)) (([([98, 64, 120] : Str), ([99, 64, 120] : Str)] : List Str))), (TAlias.mk (([98, 64, 120] : Str)) (([([97, 64, 120] : Str), ([100, 64, 120] : Str)] : List Str)))] : List TAlias)) (([97, 64, 120] : Str)) v1 h2) rfl rfl) ?_
  refine awpl_op rfl (opTo_q (d := 13) rfl rfl ev_move) ?_
  refine awpl_op rfl (opTo_q (d := 16) rfl rfl (ev_extract rfl rfl)) ?_
  refine awpl_op rfl (opTo_q (d := 17) rfl rfl (ev_extract rfl rfl)) ?_
  refine awpl_op rfl (opTo_alloc (k := 3) 3 rfl ty_api_Fault (.inr ⟨rfl, rfl⟩) rfl rfl rfl) ?_
  refine awpl_op rfl (opTo_q (d := 2) rfl rfl ev_assign) ?_
  refine awpl_op rfl (opTo_store rfl rfl rfl ty_api_Fault rfl rfl) ?_
  refine awpl_nil ?_
  refine kthen_normal ?_
  refine awp_seq ?_
  refine awp_region ?_
  refine awpl_op rfl (opTo_q (d := 19) rfl rfl ev_move) ?_
  obtain ⟨v3, h4, hr⟩ := bind_some hr
  refine awpl_op rfl (opTo_call (k := 20) (alias_Loops_run (([(TAlias.mk (([97, 64, 120] : Str)) (([([98, 64, 120] : Str), ([99, 64, 120] : Str)] : List Str))), (TAlias.mk (([98, 64, 120] : Str)) (([([97, 64, 120] : Str), ([100, 64, 120] : Str)] : List Str)))] : List TAlias)) v3 h4) rfl rfl) ?_
  refine awpl_op rfl (opTo_q (d := 18) rfl rfl ev_move) ?_
  refine awpl_op rfl (opTo_q (d := 21) rfl rfl (ev_extract rfl rfl)) ?_
  refine awpl_op rfl (opTo_q (d := 22) rfl rfl (ev_extract rfl rfl)) ?_
  refine awpl_op rfl (opTo_alloc (k := 5) 5 rfl ty_api_Fault (.inr ⟨rfl, rfl⟩) rfl rfl rfl) ?_
  refine awpl_op rfl (opTo_q (d := 4) rfl rfl ev_assign) ?_
  refine awpl_op rfl (opTo_store rfl rfl rfl ty_api_Fault rfl rfl) ?_
  refine awpl_nil ?_
  refine kthen_normal ?_
  refine awp_seq ?_
  refine awp_region ?_
  refine awpl_op rfl (opTo_q (d := 24) rfl rfl ev_move) ?_
  obtain ⟨v5, h6, hr⟩ := bind_some hr
  refine awpl_op rfl (opTo_call (k := 25) (alias_Expand_run (([(TAlias.mk (([97, 64, 120] : Str)) (([([98, 64, 120] : Str), ([99, 64, 120] : Str)] : List Str))), (TAlias.mk (([98, 64, 120] : Str)) (([([97, 64, 120] : Str), ([100, 64, 120] : Str)] : List Str)))] : List TAlias)) (([97] : Str)) v5 h6) rfl rfl) ?_
  refine awpl_op rfl (opTo_q (d := 23) rfl rfl ev_move) ?_
  refine awpl_op rfl (opTo_q (d := 26) rfl rfl (ev_extract rfl rfl)) ?_
  refine awpl_op rfl (opTo_q (d := 27) rfl rfl (ev_extract rfl rfl)) ?_
  refine awpl_op rfl (opTo_alloc (k := 7) 7 rfl ty_api_Fault (.inr ⟨rfl, rfl⟩) rfl rfl rfl) ?_
  refine awpl_op rfl (opTo_q (d := 6) rfl rfl ev_assign) ?_
  refine awpl_op rfl (opTo_store rfl rfl rfl ty_api_Fault rfl rfl) ?_
  refine awpl_nil ?_
  refine kthen_normal ?_
  obtain ⟨j7, hx, hy⟩ := bind_some hr
  refine awp_join (fun j7 => [(0, .bo j7)]) (fun j7 => []) (fun z => j7 = z) ?_ ?_
  · have hr := hx
    clear hx hy
    refine bool_split ((v1.2.Code == 0)) (fun c8 => ?_) (fun c8 => ?_)
    · replace hr := cond_t c8 hr
      refine bool_split ((v3.2.Code == 0)) (fun c9 => ?_) (fun c9 => ?_)
      · replace hr := cond_t c9 hr
        obtain ⟨v10, h11, hr⟩ := bind_some hr
        refine bool_split ((allEq [(v5.2.Code == v10.Code), (v5.2.Index == v10.Index)])) (fun c12 => ?_) (fun c12 => ?_)
        · replace hr := cond_t c12 hr
          obtain ⟨v13, h14, hr⟩ := bind_some hr
          refine bool_split v13 (fun c15 => ?_) (fun c15 => ?_)
          · replace hr := cond_t c15 hr
            refine awp_drawn 21 [(48, .l cS (([([97, 64, 120] : Str), ([98, 64, 120] : Str)] : List Str))), (47, .l cS v3.1), (46, .bo v13), (45, .bo v13), (44, .bo v13), (43, .l cS (([([99, 64, 120] : Str), ([100, 64, 120] : Str)] : List Str))), (42, .l cS v1.1), (41, .bo ((allEq [(v5.2.Code == v10.Code), (v5.2.Index == v10.Index)]))), (40, .bo ((allEq [(v5.2.Code == v10.Code), (v5.2.Index == v10.Index)]))), (39, .bo ((allEq [(v5.2.Code == v10.Code), (v5.2.Index == v10.Index)]))), (38, .agg [.i v10.Code, .i v10.Index]), (37, .agg [.i v5.2.Code, .i v5.2.Index]), (36, .bo ((v3.2.Code == 0))), (35, .bo ((v3.2.Code == 0))), (34, .bo ((v3.2.Code == 0))), (33, .i v3.2.Code), (32, .ptr 5 0), (31, .bo ((v1.2.Code == 0))), (30, .bo ((v1.2.Code == 0))), (29, .i v1.2.Code), (28, .ptr 3 0)] mixed (by kernel_rfl) rfl rfl (.run (.plain rfl) (opG_q (ev_fieldAddr rfl ty_api_Fault.u rfl ty_int rfl)) (.run (.plain rfl) (opG_q (ev_load rfl rfl ty_int rfl rfl)) (.run (.plain rfl) (opG_q (ev_eql rfl rfl)) (.run (.plain rfl) (opG_q ev_move) (.run (.yes (d := 31) rfl rfl rfl c8) (opG_q (ev_fieldAddr rfl ty_api_Fault.u rfl ty_int rfl)) (.run (.yes (d := 31) rfl rfl rfl c8) (opG_q (ev_load rfl rfl ty_int rfl rfl)) (.run (.yes (d := 31) rfl rfl rfl c8) (opG_q (ev_eql rfl rfl)) (.run (.plain rfl) (opG_q (ev_pick_t rfl c8)) (.run (.plain rfl) (opG_q ev_move) (.run (.yes (d := 36) rfl rfl rfl c9) (opG_q (ev_loadN rfl rfl ty_api_Fault rfl rfl)) (.run (.yes (d := 36) rfl rfl rfl c9) (opG_call (R_At_run 10 ((-2)) v10 h11) rfl) (.run (.yes (d := 36) rfl rfl rfl c9) (opG_q (ev_structeq rfl rfl ty_api_Fault cmp_api_Fault (.int rfl (by decide) ty_int (.int rfl (by decide) ty_int .nil)))) (.run (.plain rfl) (opG_q (ev_pick_t rfl c9)) (.run (.plain rfl) (opG_q ev_move) (.run (.yes (d := 41) rfl rfl rfl c12) (opG_q ev_move) (.run (.yes (d := 41) rfl rfl rfl c12) (opG_lit (F := cS) (l := ([([99, 64, 120] : Str), ([100, 64, 120] : Str)] : List Str)) ty_s_string ty_string rfl (fun _ => rfl) rfl rfl) (.run (.yes (d := 41) rfl rfl rfl c12) (opG_call (R_Strings_run v1.1 (([([99, 64, 120] : Str), ([100, 64, 120] : Str)] : List Str)) v13 h14) rfl) (.run (.plain rfl) (opG_q (ev_pick_t rfl c12)) (.run (.plain rfl) (opG_q ev_move) (.run (.yes (d := 46) rfl rfl rfl c15) (opG_q ev_move) (.run (.yes (d := 46) rfl rfl rfl c15) (opG_lit (F := cS) (l := ([([97, 64, 120] : Str), ([98, 64, 120] : Str)] : List Str)) ty_s_string ty_string rfl (fun _ => rfl) rfl rfl) .nil))))))))))))))))))))) rfl ?_
            obtain ⟨v16, h17, hr⟩ := bind_some hr
            refine awpl_yes (d := 46) rfl rfl rfl c15 (opTo_call (k := 49) (R_Strings_run v3.1 (([([97, 64, 120] : Str), ([98, 64, 120] : Str)] : List Str)) v16 h17) rfl rfl) ?_
            refine awpl_op rfl (opTo_q (d := 50) rfl rfl (ev_pick_t rfl c15)) ?_
            refine awpl_op rfl (opTo_q (d := 0) rfl rfl ev_assign) ?_
            refine awpl_nil ?_
            cases hr
            exact joinK_normal _ rfl (frLe_cons rfl frLe_nil) stoLe_nil
          · replace hr := cond_f c15 hr
            refine awp_drawn 21 [(48, .tup []), (47, .tup []), (46, .bo v13), (45, .bo v13), (44, .bo v13), (43, .l cS (([([99, 64, 120] : Str), ([100, 64, 120] : Str)] : List Str))), (42, .l cS v1.1), (41, .bo ((allEq [(v5.2.Code == v10.Code), (v5.2.Index == v10.Index)]))), (40, .bo ((allEq [(v5.2.Code == v10.Code), (v5.2.Index == v10.Index)]))), (39, .bo ((allEq [(v5.2.Code == v10.Code), (v5.2.Index == v10.Index)]))), (38, .agg [.i v10.Code, .i v10.Index]), (37, .agg [.i v5.2.Code, .i v5.2.Index]), (36, .bo ((v3.2.Code == 0))), (35, .bo ((v3.2.Code == 0))), (34, .bo ((v3.2.Code == 0))), (33, .i v3.2.Code), (32, .ptr 5 0), (31, .bo ((v1.2.Code == 0))), (30, .bo ((v1.2.Code == 0))), (29, .i v1.2.Code), (28, .ptr 3 0)] mixed (by kernel_rfl) rfl rfl (.run (.plain rfl) (opG_q (ev_fieldAddr rfl ty_api_Fault.u rfl ty_int rfl)) (.run (.plain rfl) (opG_q (ev_load rfl rfl ty_int rfl rfl)) (.run (.plain rfl) (opG_q (ev_eql rfl rfl)) (.run (.plain rfl) (opG_q ev_move) (.run (.yes (d := 31) rfl rfl rfl c8) (opG_q (ev_fieldAddr rfl ty_api_Fault.u rfl ty_int rfl)) (.run (.yes (d := 31) rfl rfl rfl c8) (opG_q (ev_load rfl rfl ty_int rfl rfl)) (.run (.yes (d := 31) rfl rfl rfl c8) (opG_q (ev_eql rfl rfl)) (.run (.plain rfl) (opG_q (ev_pick_t rfl c8)) (.run (.plain rfl) (opG_q ev_move) (.run (.yes (d := 36) rfl rfl rfl c9) (opG_q (ev_loadN rfl rfl ty_api_Fault rfl rfl)) (.run (.yes (d := 36) rfl rfl rfl c9) (opG_call (R_At_run 10 ((-2)) v10 h11) rfl) (.run (.yes (d := 36) rfl rfl rfl c9) (opG_q (ev_structeq rfl rfl ty_api_Fault cmp_api_Fault (.int rfl (by decide) ty_int (.int rfl (by decide) ty_int .nil)))) (.run (.plain rfl) (opG_q (ev_pick_t rfl c9)) (.run (.plain rfl) (opG_q ev_move) (.run (.yes (d := 41) rfl rfl rfl c12) (opG_q ev_move) (.run (.yes (d := 41) rfl rfl rfl c12) (opG_lit (F := cS) (l := ([([99, 64, 120] : Str), ([100, 64, 120] : Str)] : List Str)) ty_s_string ty_string rfl (fun _ => rfl) rfl rfl) (.run (.yes (d := 41) rfl rfl rfl c12) (opG_call (R_Strings_run v1.1 (([([99, 64, 120] : Str), ([100, 64, 120] : Str)] : List Str)) v13 h14) rfl) (.run (.plain rfl) (opG_q (ev_pick_t rfl c12)) (.run (.plain rfl) (opG_q ev_move) (.skip (.no (d := 46) rfl rfl rfl c15) (.skip (.no (d := 46) rfl rfl rfl c15) .nil))))))))))))))))))))) rfl ?_
            refine awpl_no (d := 46) rfl rfl rfl c15 ?_
            refine awpl_op rfl (opTo_q (d := 50) rfl rfl (ev_pick_f rfl c15)) ?_
            refine awpl_op rfl (opTo_q (d := 0) rfl rfl ev_assign) ?_
            refine awpl_nil ?_
            cases hr
            exact joinK_normal _ rfl (frLe_cons rfl frLe_nil) stoLe_nil
        · replace hr := cond_f c12 hr
          refine awp_drawn 21 [(48, .tup []), (47, .tup []), (46, .bo false), (45, .bo false), (44, .tup []), (43, .tup []), (42, .tup []), (41, .bo ((allEq [(v5.2.Code == v10.Code), (v5.2.Index == v10.Index)]))), (40, .bo ((allEq [(v5.2.Code == v10.Code), (v5.2.Index == v10.Index)]))), (39, .bo ((allEq [(v5.2.Code == v10.Code), (v5.2.Index == v10.Index)]))), (38, .agg [.i v10.Code, .i v10.Index]), (37, .agg [.i v5.2.Code, .i v5.2.Index]), (36, .bo ((v3.2.Code == 0))), (35, .bo ((v3.2.Code == 0))), (34, .bo ((v3.2.Code == 0))), (33, .i v3.2.Code), (32, .ptr 5 0), (31, .bo ((v1.2.Code == 0))), (30, .bo ((v1.2.Code == 0))), (29, .i v1.2.Code), (28, .ptr 3 0)] mixed (by kernel_rfl) rfl rfl (.run (.plain rfl) (opG_q (ev_fieldAddr rfl ty_api_Fault.u rfl ty_int rfl)) (.run (.plain rfl) (opG_q (ev_load rfl rfl ty_int rfl rfl)) (.run (.plain rfl) (opG_q (ev_eql rfl rfl)) (.run (.plain rfl) (opG_q ev_move) (.run (.yes (d := 31) rfl rfl rfl c8) (opG_q (ev_fieldAddr rfl ty_api_Fault.u rfl ty_int rfl)) (.run (.yes (d := 31) rfl rfl rfl c8) (opG_q (ev_load rfl rfl ty_int rfl rfl)) (.run (.yes (d := 31) rfl rfl rfl c8) (opG_q (ev_eql rfl rfl)) (.run (.plain rfl) (opG_q (ev_pick_t rfl c8)) (.run (.plain rfl) (opG_q ev_move) (.run (.yes (d := 36) rfl rfl rfl c9) (opG_q (ev_loadN rfl rfl ty_api_Fault rfl rfl)) (.run (.yes (d := 36) rfl rfl rfl c9) (opG_call (R_At_run 10 ((-2)) v10 h11) rfl) (.run (.yes (d := 36) rfl rfl rfl c9) (opG_q (ev_structeq rfl rfl ty_api_Fault cmp_api_Fault (.int rfl (by decide) ty_int (.int rfl (by decide) ty_int .nil)))) (.run (.plain rfl) (opG_q (ev_pick_t rfl c9)) (.run (.plain rfl) (opG_q ev_move) (.skip (.no (d := 41) rfl rfl rfl c12) (.skip (.no (d := 41) rfl rfl rfl c12) (.skip (.no (d := 41) rfl rfl rfl c12) (.run (.plain rfl) (opG_q (ev_pick_f rfl c12)) (.run (.plain rfl) (opG_q ev_move) (.skip (.no (d := 46) rfl rfl rfl rfl) (.skip (.no (d := 46) rfl rfl rfl rfl) .nil))))))))))))))))))))) rfl ?_
          refine awpl_no (d := 46) rfl rfl rfl rfl ?_
          refine awpl_op rfl (opTo_q (d := 50) rfl rfl (ev_pick_f rfl rfl)) ?_
          refine awpl_op rfl (opTo_q (d := 0) rfl rfl ev_assign) ?_
          refine awpl_nil ?_
          cases hr
          exact joinK_normal _ rfl (frLe_cons rfl frLe_nil) stoLe_nil
      · replace hr := cond_f c9 hr
        refine awp_drawn 21 [(48, .tup []), (47, .tup []), (46, .bo false), (45, .bo false), (44, .tup []), (43, .tup []), (42, .tup []), (41, .bo false), (40, .bo false), (39, .tup []), (38, .tup []), (37, .tup []), (36, .bo ((v3.2.Code == 0))), (35, .bo ((v3.2.Code == 0))), (34, .bo ((v3.2.Code == 0))), (33, .i v3.2.Code), (32, .ptr 5 0), (31, .bo ((v1.2.Code == 0))), (30, .bo ((v1.2.Code == 0))), (29, .i v1.2.Code), (28, .ptr 3 0)] mixed (by kernel_rfl) rfl rfl (.run (.plain rfl) (opG_q (ev_fieldAddr rfl ty_api_Fault.u rfl ty_int rfl)) (.run (.plain rfl) (opG_q (ev_load rfl rfl ty_int rfl rfl)) (.run (.plain rfl) (opG_q (ev_eql rfl rfl)) (.run (.plain rfl) (opG_q ev_move) (.run (.yes (d := 31) rfl rfl rfl c8) (opG_q (ev_fieldAddr rfl ty_api_Fault.u rfl ty_int rfl)) (.run (.yes (d := 31) rfl rfl rfl c8) (opG_q (ev_load rfl rfl ty_int rfl rfl)) (.run (.yes (d := 31) rfl rfl rfl c8) (opG_q (ev_eql rfl rfl)) (.run (.plain rfl) (opG_q (ev_pick_t rfl c8)) (.run (.plain rfl) (opG_q ev_move) (.skip (.no (d := 36) rfl rfl rfl c9) (.skip (.no (d := 36) rfl rfl rfl c9) (.skip (.no (d := 36) rfl rfl rfl c9) (.run (.plain rfl) (opG_q (ev_pick_f rfl c9)) (.run (.plain rfl) (opG_q ev_move) (.skip (.no (d := 41) rfl rfl rfl rfl) (.skip (.no (d := 41) rfl rfl rfl rfl) (.skip (.no (d := 41) rfl rfl rfl rfl) (.run (.plain rfl) (opG_q (ev_pick_f rfl rfl)) (.run (.plain rfl) (opG_q ev_move) (.skip (.no (d := 46) rfl rfl rfl rfl) (.skip (.no (d := 46) rfl rfl rfl rfl) .nil))))))))))))))))))))) rfl ?_
        refine awpl_no (d := 46) rfl rfl rfl rfl ?_
        refine awpl_op rfl (opTo_q (d := 50) rfl rfl (ev_pick_f rfl rfl)) ?_
        refine awpl_op rfl (opTo_q (d := 0) rfl rfl ev_assign) ?_
        refine awpl_nil ?_
        cases hr
        exact joinK_normal _ rfl (frLe_cons rfl frLe_nil) stoLe_nil
    · replace hr := cond_f c8 hr
      refine awp_drawn 21 [(48, .tup []), (47, .tup []), (46, .bo false), (45, .bo false), (44, .tup []), (43, .tup []), (42, .tup []), (41, .bo false), (40, .bo false), (39, .tup []), (38, .tup []), (37, .tup []), (36, .bo false), (35, .bo false), (34, .tup []), (33, .tup []), (32, .tup []), (31, .bo ((v1.2.Code == 0))), (30, .bo ((v1.2.Code == 0))), (29, .i v1.2.Code), (28, .ptr 3 0)] mixed (by kernel_rfl) rfl rfl (.run (.plain rfl) (opG_q (ev_fieldAddr rfl ty_api_Fault.u rfl ty_int rfl)) (.run (.plain rfl) (opG_q (ev_load rfl rfl ty_int rfl rfl)) (.run (.plain rfl) (opG_q (ev_eql rfl rfl)) (.run (.plain rfl) (opG_q ev_move) (.skip (.no (d := 31) rfl rfl rfl c8) (.skip (.no (d := 31) rfl rfl rfl c8) (.skip (.no (d := 31) rfl rfl rfl c8) (.run (.plain rfl) (opG_q (ev_pick_f rfl c8)) (.run (.plain rfl) (opG_q ev_move) (.skip (.no (d := 36) rfl rfl rfl rfl) (.skip (.no (d := 36) rfl rfl rfl rfl) (.skip (.no (d := 36) rfl rfl rfl rfl) (.run (.plain rfl) (opG_q (ev_pick_f rfl rfl)) (.run (.plain rfl) (opG_q ev_move) (.skip (.no (d := 41) rfl rfl rfl rfl) (.skip (.no (d := 41) rfl rfl rfl rfl) (.skip (.no (d := 41) rfl rfl rfl rfl) (.run (.plain rfl) (opG_q (ev_pick_f rfl rfl)) (.run (.plain rfl) (opG_q ev_move) (.skip (.no (d := 46) rfl rfl rfl rfl) (.skip (.no (d := 46) rfl rfl rfl rfl) .nil))))))))))))))))))))) rfl ?_
      refine awpl_no (d := 46) rfl rfl rfl rfl ?_
      refine awpl_op rfl (opTo_q (d := 50) rfl rfl (ev_pick_f rfl rfl)) ?_
      refine awpl_op rfl (opTo_q (d := 0) rfl rfl ev_assign) ?_
      refine awpl_nil ?_
      cases hr
      exact joinK_normal _ rfl (frLe_cons rfl frLe_nil) stoLe_nil
  · rintro _ rfl
    have hr := hy
    clear hx hy
    refine awp_ret ?_
    cases hr
    exact kret' rfl (.cons (res_tmp rfl) .nil) rfl
end Go.Proofs.Ytlpmbmilnoncdaa

/- A function of the program computes what its Lean function does. Written by program. -/
namespace Go.Proofs.Ytlpmbmilnoncdaa
open Go.RowKit
set_option maxRecDepth 100000
set_option maxHeartbeats 40000000
set_option linter.unusedVariables false
theorem R_In_run (a0 : Int) (a1 : Int) (a2 : Int) (r : Bool) (hr : R_In a0 a1 a2 = some r) : Run Try.prog 18 [.i a0, .i a1, .i a2] (.bo r) := by
  unfold R_In at hr
  refine run_of_awp (fn := Try.f18) ⟨Try.func18, rfl, by kernel_rfl⟩ rfl (fun _ => rfl) fun g0 hg => ?_
  refine awp_seq ?_
  refine awp_region ?_
  refine awpl_op rfl (opTo_q (d := 6) rfl rfl ev_assign) ?_
  refine awpl_nil ?_
  refine kthen_normal ?_
  obtain ⟨j1, hx, hy⟩ := bind_some hr
  refine awp_join (fun j1 => [(6, .bo j1)]) (fun j1 => []) (fun z => j1 = z) ?_ ?_
  · have hr := hx
    clear hx hy
    refine awp_region ?_
    refine awpl_op rfl (opTo_q (d := 7) rfl rfl ev_move) ?_
    refine awpl_op rfl (opTo_q (d := 8) rfl rfl ev_move) ?_
    refine awpl_op rfl (opTo_q (d := 9) rfl rfl (ev_geq rfl rfl)) ?_
    refine awpl_op rfl (opTo_q (d := 10) rfl rfl ev_move) ?_
    refine bool_split (decide (a1 ≤ a0)) (fun c2 => ?_) (fun c2 => ?_)
    · replace hr := cond_t c2 hr
      refine awpl_yes (d := 10) rfl rfl rfl c2 (opTo_q (d := 11) rfl rfl ev_move) ?_
      refine awpl_yes (d := 10) rfl rfl rfl c2 (opTo_q (d := 12) rfl rfl ev_move) ?_
      refine awpl_yes (d := 10) rfl rfl rfl c2 (opTo_q (d := 13) rfl rfl (ev_leq rfl rfl)) ?_
      refine awpl_op rfl (opTo_q (d := 14) rfl rfl (ev_pick_t rfl c2)) ?_
      refine awpl_op rfl (opTo_q (d := 6) rfl rfl ev_assign) ?_
      refine awpl_nil ?_
      cases hr
      exact joinK_normal _ rfl (frLe_cons rfl frLe_nil) stoLe_nil
    · replace hr := cond_f c2 hr
      refine awpl_no (d := 10) rfl rfl rfl c2 ?_
      refine awpl_no (d := 10) rfl rfl rfl c2 ?_
      refine awpl_no (d := 10) rfl rfl rfl c2 ?_
      refine awpl_op rfl (opTo_q (d := 14) rfl rfl (ev_pick_f rfl c2)) ?_
      refine awpl_op rfl (opTo_q (d := 6) rfl rfl ev_assign) ?_
      refine awpl_nil ?_
      cases hr
      exact joinK_normal _ rfl (frLe_cons rfl frLe_nil) stoLe_nil
  · rintro _ rfl
    have hr := hy
    clear hx hy
    refine awp_ret ?_
    cases hr
    exact kret' rfl (.cons (res_tmp rfl) .nil) rfl
end Go.Proofs.Ytlpmbmilnoncdaa

/- A function of the program computes what its Lean function does. Written by program. -/
namespace Go.Proofs.Ytlpmbmilnoncdaa
open Go.RowKit
set_option maxRecDepth 100000
set_option maxHeartbeats 40000000
set_option linter.unusedVariables false
theorem R_DomainOk_run (a0 : Str) (r : Bool) (hr : R_DomainOk a0 = some r) : Run Try.prog 65 [.s a0] (.bo r) := by
  unfold R_DomainOk at hr
  refine run_of_awp (fn := Try.f65) ⟨Try.func65, rfl, by kernel_rfl⟩ rfl (fun _ => rfl) fun g0 hg => ?_
  refine awp_seq ?_
  refine awp_region ?_
  refine awpl_op rfl (opTo_q (d := 2) rfl rfl ev_assign) ?_
  refine awpl_nil ?_
  refine kthen_normal ?_
  refine awp_seq ?_
  refine awp_seq ?_
  refine awp_region ?_
  refine awpl_op rfl (opTo_q (d := 3) rfl rfl ev_assign) ?_
  refine awpl_nil ?_
  refine kthen_normal ?_
  refine awp_block ?_
  obtain ⟨o4, hl, hr⟩ := bind_some hr
  refine awp_loop (R_DomainOk_l1 a0) (fun s1 => [(0, .s a0), (3, .i s1)]) (fun s1 => []) (fun o => match o with | .inl b2 => At (.exit 0) [(0, .s a0)] [] | .inr b3 => At .ret [(2, .bo b3)] []) ?_ 0 hl (frLe_cons rfl (frLe_cons rfl frLe_nil)) stoLe_nil ?_
  · intro s1 x5 hr
    unfold R_DomainOk_l1 at hr
    refine awp_seq ?_
    refine awp_seq ?_
    refine awp_region ?_
    refine awpl_op rfl (opTo_q (d := 5) rfl rfl ev_move) ?_
    refine awpl_op rfl (opTo_q (d := 6) rfl rfl ev_move) ?_
    refine awpl_op rfl (opTo_q (d := 7) rfl rfl (ev_slen rfl ty_string.u)) ?_
    refine awpl_op rfl (opTo_q (d := 8) rfl rfl (ev_lss rfl rfl)) ?_
    refine awpl_nil ?_
    refine kthen_normal ?_
    refine awp_cond rfl (fun c6 => ?_) (fun c6 => ?_)
    · replace hr := cond_t c6 hr
      refine awp_skip ?_
      refine kthen_normal ?_
      refine awp_seq ?_
      refine awp_block ?_
      refine awp_seq ?_
      refine awp_region ?_
      refine awpl_op rfl (opTo_q (d := 11) rfl rfl ev_move) ?_
      refine awpl_op rfl (opTo_q (d := 12) rfl rfl ev_move) ?_
      obtain ⟨v7, h8, hr⟩ := bind_some hr
      refine awpl_op rfl (opTo_q (d := 13) rfl rfl (ev_sidx rfl rfl ty_string h8)) ?_
      refine awpl_op rfl (opTo_q (d := 14) rfl rfl (ev_u8int rfl ty_uint8 ty_int)) ?_
      refine awpl_op rfl (opTo_q (d := 4) rfl rfl ev_assign) ?_
      refine awpl_nil ?_
      refine kthen_normal ?_
      refine awp_seq ?_
      obtain ⟨j9, hx, hy⟩ := bind_some hr
      refine awp_join (fun j9 => [(0, .s a0), (3, .i s1), (4, .i ((v7.toNat : Int))), (36, .bo j9)]) (fun j9 => []) (fun z => j9 = z) ?_ ?_
      · have hr := hx
        clear hx hy
        refine awp_region ?_
        refine awpl_op rfl (opTo_q (d := 15) rfl rfl ev_move) ?_
        refine awpl_op rfl (opTo_q (d := 16) rfl rfl ev_move) ?_
        obtain ⟨v10, h11, hr⟩ := bind_some hr
        refine awpl_op rfl (opTo_q (d := 17) rfl rfl (ev_sidx rfl rfl ty_string h11)) ?_
        refine awpl_op rfl (opTo_q (d := 18) rfl rfl (ev_eql rfl rfl)) ?_
        refine awpl_op rfl (opTo_q (d := 19) rfl rfl ev_move) ?_
        refine bool_split (((v10.toNat : Int) == 46)) (fun c12 => ?_) (fun c12 => ?_)
        · replace hr := cond_t c12 hr
          refine awpl_yes (d := 19) rfl rfl rfl c12 (opTo_q (d := 20) rfl rfl ev_move) ?_
          refine awpl_yes (d := 19) rfl rfl rfl c12 (opTo_q (d := 21) rfl rfl (ev_eql rfl rfl)) ?_
          refine awpl_yes (d := 19) rfl rfl rfl c12 (opTo_q (d := 22) rfl rfl ev_move) ?_
          refine bool_split ((s1 == 0)) (fun c13 => ?_) (fun c13 => ?_)
          · replace hr := cond_t c13 hr
            refine awpl_no (d := 22) rfl rfl rfl c13 ?_
            refine awpl_no (d := 22) rfl rfl rfl c13 ?_
            refine awpl_no (d := 22) rfl rfl rfl c13 ?_
            refine awpl_no (d := 22) rfl rfl rfl c13 ?_
            refine awpl_no (d := 22) rfl rfl rfl c13 ?_
            refine awpl_yes (d := 19) rfl rfl rfl c12 (opTo_q (d := 28) rfl rfl (ev_pick_t rfl c13)) ?_
            refine awpl_yes (d := 19) rfl rfl rfl c12 (opTo_q (d := 29) rfl rfl ev_move) ?_
            refine awpl_no (d := 29) rfl rfl rfl rfl ?_
            refine awpl_no (d := 29) rfl rfl rfl rfl ?_
            refine awpl_no (d := 29) rfl rfl rfl rfl ?_
            refine awpl_no (d := 29) rfl rfl rfl rfl ?_
            refine awpl_no (d := 29) rfl rfl rfl rfl ?_
            refine awpl_yes (d := 19) rfl rfl rfl c12 (opTo_q (d := 35) rfl rfl (ev_pick_t rfl rfl)) ?_
            refine awpl_op rfl (opTo_q (d := 36) rfl rfl (ev_pick_t rfl c12)) ?_
            refine awpl_nil ?_
            cases hr
            exact joinK_normal _ rfl (frLe_cons rfl (frLe_cons rfl (frLe_cons rfl (frLe_cons rfl frLe_nil)))) stoLe_nil
          · replace hr := cond_f c13 hr
            refine awpl_yes (d := 22) rfl rfl rfl c13 (opTo_q (d := 23) rfl rfl ev_move) ?_
            refine awpl_yes (d := 22) rfl rfl rfl c13 (opTo_q (d := 24) rfl rfl ev_move) ?_
            refine awpl_yes (d := 22) rfl rfl rfl c13 (opTo_q (d := 25) rfl rfl (ev_slen rfl ty_string.u)) ?_
            refine awpl_yes (d := 22) rfl rfl rfl c13 (opTo_q (d := 26) rfl rfl (ev_sub rfl rfl)) ?_
            refine awpl_yes (d := 22) rfl rfl rfl c13 (opTo_q (d := 27) rfl rfl (ev_eql rfl rfl)) ?_
            refine awpl_yes (d := 19) rfl rfl rfl c12 (opTo_q (d := 28) rfl rfl (ev_pick_f rfl c13)) ?_
            refine awpl_yes (d := 19) rfl rfl rfl c12 (opTo_q (d := 29) rfl rfl ev_move) ?_
            refine bool_split ((s1 == (w64 ((a0.length : Int) - 1)))) (fun c14 => ?_) (fun c14 => ?_)
            · replace hr := cond_t c14 hr
              refine awpl_no (d := 29) rfl rfl rfl c14 ?_
              refine awpl_no (d := 29) rfl rfl rfl c14 ?_
              refine awpl_no (d := 29) rfl rfl rfl c14 ?_
              refine awpl_no (d := 29) rfl rfl rfl c14 ?_
              refine awpl_no (d := 29) rfl rfl rfl c14 ?_
              refine awpl_yes (d := 19) rfl rfl rfl c12 (opTo_q (d := 35) rfl rfl (ev_pick_t rfl c14)) ?_
              refine awpl_op rfl (opTo_q (d := 36) rfl rfl (ev_pick_t rfl c12)) ?_
              refine awpl_nil ?_
              cases hr
              exact joinK_normal _ rfl (frLe_cons rfl (frLe_cons rfl (frLe_cons rfl (frLe_cons rfl frLe_nil)))) stoLe_nil
            · replace hr := cond_f c14 hr
              refine awpl_yes (d := 29) rfl rfl rfl c14 (opTo_q (d := 30) rfl rfl ev_move) ?_
              refine awpl_yes (d := 29) rfl rfl rfl c14 (opTo_q (d := 31) rfl rfl ev_move) ?_
              refine awpl_yes (d := 29) rfl rfl rfl c14 (opTo_q (d := 32) rfl rfl (ev_sub rfl rfl)) ?_
              obtain ⟨v15, h16, hr⟩ := bind_some hr
              refine awpl_yes (d := 29) rfl rfl rfl c14 (opTo_q (d := 33) rfl rfl (ev_sidx rfl rfl ty_string h16)) ?_
              refine awpl_yes (d := 29) rfl rfl rfl c14 (opTo_q (d := 34) rfl rfl (ev_eql rfl rfl)) ?_
              refine awpl_yes (d := 19) rfl rfl rfl c12 (opTo_q (d := 35) rfl rfl (ev_pick_f rfl c14)) ?_
              refine awpl_op rfl (opTo_q (d := 36) rfl rfl (ev_pick_t rfl c12)) ?_
              refine awpl_nil ?_
              cases hr
              exact joinK_normal _ rfl (frLe_cons rfl (frLe_cons rfl (frLe_cons rfl (frLe_cons rfl frLe_nil)))) stoLe_nil
        · replace hr := cond_f c12 hr
          refine awpl_no (d := 19) rfl rfl rfl c12 ?_
          refine awpl_no (d := 19) rfl rfl rfl c12 ?_
          refine awpl_no (d := 19) rfl rfl rfl c12 ?_
          refine awpl_none (d := 22) rfl rfl rfl ?_
          refine awpl_none (d := 22) rfl rfl rfl ?_
          refine awpl_none (d := 22) rfl rfl rfl ?_
          refine awpl_none (d := 22) rfl rfl rfl ?_
          refine awpl_none (d := 22) rfl rfl rfl ?_
          refine awpl_no (d := 19) rfl rfl rfl c12 ?_
          refine awpl_no (d := 19) rfl rfl rfl c12 ?_
          refine awpl_none (d := 29) rfl rfl rfl ?_
          refine awpl_none (d := 29) rfl rfl rfl ?_
          refine awpl_none (d := 29) rfl rfl rfl ?_
          refine awpl_none (d := 29) rfl rfl rfl ?_
          refine awpl_none (d := 29) rfl rfl rfl ?_
          refine awpl_no (d := 19) rfl rfl rfl c12 ?_
          refine awpl_op rfl (opTo_q (d := 36) rfl rfl (ev_pick_f rfl c12)) ?_
          refine awpl_nil ?_
          cases hr
          exact joinK_normal _ rfl (frLe_cons rfl (frLe_cons rfl (frLe_cons rfl (frLe_cons rfl frLe_nil)))) stoLe_nil
      · rintro _ rfl
        have hr := hy
        clear hx hy
        refine awp_cond rfl (fun c17 => ?_) (fun c17 => ?_)
        · replace hr := cond_t c17 hr
          refine awp_seq ?_
          refine awp_region ?_
          refine awpl_op rfl (opTo_q (d := 2) rfl rfl ev_assign) ?_
          refine awpl_nil ?_
          refine kthen_normal ?_
          refine awp_ret ?_
          refine kthen_ret ?_
          refine kblock_ret ?_
          refine kthen_ret ?_
          cases hr
          exact ⟨by simp, rfl, (frLe_cons rfl frLe_nil), stoLe_nil⟩
        · replace hr := cond_f c17 hr
          refine awp_skip ?_
          refine kthen_normal ?_
          obtain ⟨j18, hx, hy⟩ := bind_some hr
          refine awp_join (fun j18 => [(0, .s a0), (3, .i s1), (56, .bo j18)]) (fun j18 => []) (fun z => j18 = z) ?_ ?_
          · have hr := hx
            clear hx hy
            refine awp_region ?_
            refine awpl_op rfl (opTo_q (d := 37) rfl rfl ev_move) ?_
            obtain ⟨v19, h20, hr⟩ := bind_some hr
            refine awpl_op rfl (opTo_call (k := 38) (R_In_run ((v7.toNat : Int)) 97 122 v19 h20) rfl rfl) ?_
            refine awpl_op rfl (opTo_q (d := 39) rfl rfl (ev_not rfl)) ?_
            refine awpl_op rfl (opTo_q (d := 40) rfl rfl ev_move) ?_
            refine bool_split ((!v19)) (fun c21 => ?_) (fun c21 => ?_)
            · replace hr := cond_t c21 hr
              refine awpl_yes (d := 40) rfl rfl rfl c21 (opTo_q (d := 41) rfl rfl ev_move) ?_
              obtain ⟨v22, h23, hr⟩ := bind_some hr
              refine awpl_yes (d := 40) rfl rfl rfl c21 (opTo_call (k := 42) (R_In_run ((v7.toNat : Int)) 48 57 v22 h23) rfl rfl) ?_
              refine awpl_yes (d := 40) rfl rfl rfl c21 (opTo_q (d := 43) rfl rfl (ev_not rfl)) ?_
              refine awpl_op rfl (opTo_q (d := 44) rfl rfl (ev_pick_t rfl c21)) ?_
              refine awpl_op rfl (opTo_q (d := 45) rfl rfl ev_move) ?_
              refine bool_split ((!v22)) (fun c24 => ?_) (fun c24 => ?_)
              · replace hr := cond_t c24 hr
                refine awpl_yes (d := 45) rfl rfl rfl c24 (opTo_q (d := 46) rfl rfl ev_move) ?_
                refine awpl_yes (d := 45) rfl rfl rfl c24 (opTo_q (d := 47) rfl rfl ev_move) ?_
                obtain ⟨v25, h26, hr⟩ := bind_some hr
                refine awpl_yes (d := 45) rfl rfl rfl c24 (opTo_q (d := 48) rfl rfl (ev_sidx rfl rfl ty_string h26)) ?_
                refine awpl_yes (d := 45) rfl rfl rfl c24 (opTo_q (d := 49) rfl rfl (ev_neq rfl rfl)) ?_
                refine awpl_op rfl (opTo_q (d := 50) rfl rfl (ev_pick_t rfl c24)) ?_
                refine awpl_op rfl (opTo_q (d := 51) rfl rfl ev_move) ?_
                refine bool_split (((v25.toNat : Int) != 45)) (fun c27 => ?_) (fun c27 => ?_)
                · replace hr := cond_t c27 hr
                  refine awpl_yes (d := 51) rfl rfl rfl c27 (opTo_q (d := 52) rfl rfl ev_move) ?_
                  refine awpl_yes (d := 51) rfl rfl rfl c27 (opTo_q (d := 53) rfl rfl ev_move) ?_
                  obtain ⟨v28, h29, hr⟩ := bind_some hr
                  refine awpl_yes (d := 51) rfl rfl rfl c27 (opTo_q (d := 54) rfl rfl (ev_sidx rfl rfl ty_string h29)) ?_
                  refine awpl_yes (d := 51) rfl rfl rfl c27 (opTo_q (d := 55) rfl rfl (ev_neq rfl rfl)) ?_
                  refine awpl_op rfl (opTo_q (d := 56) rfl rfl (ev_pick_t rfl c27)) ?_
                  refine awpl_nil ?_
                  cases hr
                  exact joinK_normal _ rfl (frLe_cons rfl (frLe_cons rfl (frLe_cons rfl frLe_nil))) stoLe_nil
                · replace hr := cond_f c27 hr
                  refine awpl_no (d := 51) rfl rfl rfl c27 ?_
                  refine awpl_no (d := 51) rfl rfl rfl c27 ?_
                  refine awpl_no (d := 51) rfl rfl rfl c27 ?_
                  refine awpl_no (d := 51) rfl rfl rfl c27 ?_
                  refine awpl_op rfl (opTo_q (d := 56) rfl rfl (ev_pick_f rfl c27)) ?_
                  refine awpl_nil ?_
                  cases hr
                  exact joinK_normal _ rfl (frLe_cons rfl (frLe_cons rfl (frLe_cons rfl frLe_nil))) stoLe_nil
              · replace hr := cond_f c24 hr
                refine awpl_no (d := 45) rfl rfl rfl c24 ?_
                refine awpl_no (d := 45) rfl rfl rfl c24 ?_
                refine awpl_no (d := 45) rfl rfl rfl c24 ?_
                refine awpl_no (d := 45) rfl rfl rfl c24 ?_
                refine awpl_op rfl (opTo_q (d := 50) rfl rfl (ev_pick_f rfl c24)) ?_
                refine awpl_op rfl (opTo_q (d := 51) rfl rfl ev_move) ?_
                refine awpl_no (d := 51) rfl rfl rfl rfl ?_
                refine awpl_no (d := 51) rfl rfl rfl rfl ?_
                refine awpl_no (d := 51) rfl rfl rfl rfl ?_
                refine awpl_no (d := 51) rfl rfl rfl rfl ?_
                refine awpl_op rfl (opTo_q (d := 56) rfl rfl (ev_pick_f rfl rfl)) ?_
                refine awpl_nil ?_
                cases hr
                exact joinK_normal _ rfl (frLe_cons rfl (frLe_cons rfl (frLe_cons rfl frLe_nil))) stoLe_nil
            · replace hr := cond_f c21 hr
              refine awpl_no (d := 40) rfl rfl rfl c21 ?_
              refine awpl_no (d := 40) rfl rfl rfl c21 ?_
              refine awpl_no (d := 40) rfl rfl rfl c21 ?_
              refine awpl_op rfl (opTo_q (d := 44) rfl rfl (ev_pick_f rfl c21)) ?_
              refine awpl_op rfl (opTo_q (d := 45) rfl rfl ev_move) ?_
              refine awpl_no (d := 45) rfl rfl rfl rfl ?_
              refine awpl_no (d := 45) rfl rfl rfl rfl ?_
              refine awpl_no (d := 45) rfl rfl rfl rfl ?_
              refine awpl_no (d := 45) rfl rfl rfl rfl ?_
              refine awpl_op rfl (opTo_q (d := 50) rfl rfl (ev_pick_f rfl rfl)) ?_
              refine awpl_op rfl (opTo_q (d := 51) rfl rfl ev_move) ?_
              refine awpl_no (d := 51) rfl rfl rfl rfl ?_
              refine awpl_no (d := 51) rfl rfl rfl rfl ?_
              refine awpl_no (d := 51) rfl rfl rfl rfl ?_
              refine awpl_no (d := 51) rfl rfl rfl rfl ?_
              refine awpl_op rfl (opTo_q (d := 56) rfl rfl (ev_pick_f rfl rfl)) ?_
              refine awpl_nil ?_
              cases hr
              exact joinK_normal _ rfl (frLe_cons rfl (frLe_cons rfl (frLe_cons rfl frLe_nil))) stoLe_nil
          · rintro _ rfl
            have hr := hy
            clear hx hy
            refine awp_cond rfl (fun c30 => ?_) (fun c30 => ?_)
            · replace hr := cond_t c30 hr
              refine awp_seq ?_
              refine awp_region ?_
              refine awpl_op rfl (opTo_q (d := 2) rfl rfl ev_assign) ?_
              refine awpl_nil ?_
              refine kthen_normal ?_
              refine awp_ret ?_
              refine kblock_ret ?_
              refine kthen_ret ?_
              cases hr
              exact ⟨by simp, rfl, (frLe_cons rfl frLe_nil), stoLe_nil⟩
            · replace hr := cond_f c30 hr
              refine awp_skip ?_
              refine kblock_normal ?_
              refine kthen_normal ?_
              refine awp_region ?_
              refine awpl_op rfl (opTo_q (d := 9) rfl rfl ev_move) ?_
              refine awpl_op rfl (opTo_q (d := 10) rfl rfl (ev_add rfl rfl)) ?_
              refine awpl_op rfl (opTo_q (d := 3) rfl rfl ev_assign) ?_
              refine awpl_nil ?_
              cases hr
              exact ⟨rfl, (frLe_cons rfl (frLe_cons rfl frLe_nil)), stoLe_nil⟩
    · replace hr := cond_f c6 hr
      refine awp_exit ?_
      refine kthen_exit ?_
      cases hr
      exact ⟨by simp, rfl, (frLe_cons rfl frLe_nil), stoLe_nil⟩
  · intro e fr2 st2 hq
    rcases o4 with b2 | b3
    · obtain ⟨rfl, hf, hs⟩ := hq
      refine kblock_exit ?_
      refine kthen_normal ?_
      refine awp_le hf hs ?_
      refine awp_seq ?_
      refine awp_region ?_
      refine awpl_op rfl (opTo_q (d := 57) rfl rfl ev_move) ?_
      refine awpl_op rfl (opTo_q (d := 58) rfl rfl (ev_slen rfl ty_string.u)) ?_
      obtain ⟨v31, h32, hr⟩ := bind_some hr
      refine awpl_op rfl (opTo_call (k := 59) (R_In_run ((a0.length : Int)) 1 60 v31 h32) rfl rfl) ?_
      refine awpl_op rfl (opTo_q (d := 2) rfl rfl ev_assign) ?_
      refine awpl_nil ?_
      refine kthen_normal ?_
      refine awp_ret ?_
      cases hr
      exact kret' rfl (.cons (res_tmp rfl) .nil) rfl
    · obtain ⟨rfl, hf, hs⟩ := hq
      refine kblock_ret ?_
      refine kthen_ret ?_
      cases hr
      exact kret' rfl (.cons (res1_le hf hs (res_tmp rfl)) .nil) rfl
end Go.Proofs.Ytlpmbmilnoncdaa

/- A function of the program computes what its Lean function does. Written by program. -/
namespace Go.Proofs.Ytlpmbmilnoncdaa
open Go.RowKit
set_option maxRecDepth 100000
set_option maxHeartbeats 40000000
set_option linter.unusedVariables false
theorem R_letterOrDigit_run (a0 : UInt8) (r : Bool) (hr : R_letterOrDigit a0 = some r) : Run Try.prog 64 [.u8 a0] (.bo r) := by
  unfold R_letterOrDigit at hr
  refine run_of_awp (fn := Try.f64) ⟨Try.func64, rfl, by kernel_rfl⟩ rfl (fun _ => rfl) fun g0 hg => ?_
  refine awp_seq ?_
  refine awp_region ?_
  refine awpl_op rfl (opTo_q (d := 2) rfl rfl ev_assign) ?_
  refine awpl_nil ?_
  refine kthen_normal ?_
  refine awp_seq ?_
  refine awp_region ?_
  refine awpl_op rfl (opTo_q (d := 4) rfl rfl ev_move) ?_
  refine awpl_op rfl (opTo_q (d := 5) rfl rfl (ev_u8int rfl ty_uint8 ty_int)) ?_
  refine awpl_op rfl (opTo_q (d := 3) rfl rfl ev_assign) ?_
  refine awpl_nil ?_
  refine kthen_normal ?_
  obtain ⟨j1, hx, hy⟩ := bind_some hr
  refine awp_join (fun j1 => [(2, .bo j1)]) (fun j1 => []) (fun z => j1 = z) ?_ ?_
  · have hr := hx
    clear hx hy
    refine awp_region ?_
    refine awpl_op rfl (opTo_q (d := 6) rfl rfl ev_move) ?_
    obtain ⟨v2, h3, hr⟩ := bind_some hr
    refine awpl_op rfl (opTo_call (k := 7) (R_In_run ((a0.toNat : Int)) 97 122 v2 h3) rfl rfl) ?_
    refine awpl_op rfl (opTo_q (d := 8) rfl rfl ev_move) ?_
    refine bool_split v2 (fun c4 => ?_) (fun c4 => ?_)
    · replace hr := cond_t c4 hr
      refine awpl_no (d := 8) rfl rfl rfl c4 ?_
      refine awpl_no (d := 8) rfl rfl rfl c4 ?_
      refine awpl_op rfl (opTo_q (d := 11) rfl rfl (ev_pick_t rfl c4)) ?_
      refine awpl_op rfl (opTo_q (d := 12) rfl rfl ev_move) ?_
      refine awpl_no (d := 12) rfl rfl rfl rfl ?_
      refine awpl_no (d := 12) rfl rfl rfl rfl ?_
      refine awpl_op rfl (opTo_q (d := 15) rfl rfl (ev_pick_t rfl rfl)) ?_
      refine awpl_op rfl (opTo_q (d := 2) rfl rfl ev_assign) ?_
      refine awpl_nil ?_
      cases hr
      exact joinK_normal _ rfl (frLe_cons rfl frLe_nil) stoLe_nil
    · replace hr := cond_f c4 hr
      refine awpl_yes (d := 8) rfl rfl rfl c4 (opTo_q (d := 9) rfl rfl ev_move) ?_
      obtain ⟨v5, h6, hr⟩ := bind_some hr
      refine awpl_yes (d := 8) rfl rfl rfl c4 (opTo_call (k := 10) (R_In_run ((a0.toNat : Int)) 65 90 v5 h6) rfl rfl) ?_
      refine awpl_op rfl (opTo_q (d := 11) rfl rfl (ev_pick_f rfl c4)) ?_
      refine awpl_op rfl (opTo_q (d := 12) rfl rfl ev_move) ?_
      refine bool_split v5 (fun c7 => ?_) (fun c7 => ?_)
      · replace hr := cond_t c7 hr
        refine awpl_no (d := 12) rfl rfl rfl c7 ?_
        refine awpl_no (d := 12) rfl rfl rfl c7 ?_
        refine awpl_op rfl (opTo_q (d := 15) rfl rfl (ev_pick_t rfl c7)) ?_
        refine awpl_op rfl (opTo_q (d := 2) rfl rfl ev_assign) ?_
        refine awpl_nil ?_
        cases hr
        exact joinK_normal _ rfl (frLe_cons rfl frLe_nil) stoLe_nil
      · replace hr := cond_f c7 hr
        refine awpl_yes (d := 12) rfl rfl rfl c7 (opTo_q (d := 13) rfl rfl ev_move) ?_
        obtain ⟨v8, h9, hr⟩ := bind_some hr
        refine awpl_yes (d := 12) rfl rfl rfl c7 (opTo_call (k := 14) (R_In_run ((a0.toNat : Int)) 48 57 v8 h9) rfl rfl) ?_
        refine awpl_op rfl (opTo_q (d := 15) rfl rfl (ev_pick_f rfl c7)) ?_
        refine awpl_op rfl (opTo_q (d := 2) rfl rfl ev_assign) ?_
        refine awpl_nil ?_
        cases hr
        exact joinK_normal _ rfl (frLe_cons rfl frLe_nil) stoLe_nil
  · rintro _ rfl
    have hr := hy
    clear hx hy
    refine awp_ret ?_
    cases hr
    exact kret' rfl (.cons (res_tmp rfl) .nil) rfl
end Go.Proofs.Ytlpmbmilnoncdaa

/- A function of the program computes what its Lean function does. Written by program. -/
namespace Go.Proofs.Ytlpmbmilnoncdaa
open Go.RowKit
set_option maxRecDepth 100000
set_option maxHeartbeats 40000000
set_option linter.unusedVariables false
theorem R_sign_run (a0 : Str) (r : Int) (hr : R_sign a0 = some r) : Run Try.prog 63 [.s a0] (.i r) := by
  unfold R_sign at hr
  refine run_of_awp (fn := Try.f63) ⟨Try.func63, rfl, by kernel_rfl⟩ rfl (fun _ => rfl) fun g0 hg => ?_
  refine awp_seq ?_
  refine awp_region ?_
  refine awpl_op rfl (opTo_q (d := 2) rfl rfl ev_assign) ?_
  refine awpl_nil ?_
  refine kthen_normal ?_
  refine awp_seq ?_
  refine awp_seq ?_
  refine awp_region ?_
  refine awpl_op rfl (opTo_q (d := 3) rfl rfl ev_assign) ?_
  refine awpl_nil ?_
  refine kthen_normal ?_
  refine awp_block ?_
  obtain ⟨o4, hl, hr⟩ := bind_some hr
  refine awp_loop (R_sign_l1 a0) (fun s1 => [(0, .s a0), (3, .i s1)]) (fun s1 => []) (fun o => match o with | .inl b2 => At (.exit 0) [(0, .s a0)] [] | .inr b3 => At .ret [(2, .i b3)] []) ?_ 0 hl (frLe_cons rfl (frLe_cons rfl frLe_nil)) stoLe_nil ?_
  · intro s1 x5 hr
    unfold R_sign_l1 at hr
    refine awp_seq ?_
    refine awp_seq ?_
    refine awp_region ?_
    refine awpl_op rfl (opTo_q (d := 4) rfl rfl ev_move) ?_
    refine awpl_op rfl (opTo_q (d := 5) rfl rfl ev_move) ?_
    refine awpl_op rfl (opTo_q (d := 6) rfl rfl (ev_slen rfl ty_string.u)) ?_
    refine awpl_op rfl (opTo_q (d := 7) rfl rfl (ev_lss rfl rfl)) ?_
    refine awpl_nil ?_
    refine kthen_normal ?_
    refine awp_cond rfl (fun c6 => ?_) (fun c6 => ?_)
    · replace hr := cond_t c6 hr
      refine awp_skip ?_
      refine kthen_normal ?_
      refine awp_seq ?_
      refine awp_block ?_
      refine awp_seq ?_
      refine awp_region ?_
      refine awpl_op rfl (opTo_q (d := 10) rfl rfl ev_move) ?_
      refine awpl_op rfl (opTo_q (d := 11) rfl rfl ev_move) ?_
      obtain ⟨v7, h8, hr⟩ := bind_some hr
      refine awpl_op rfl (opTo_q (d := 12) rfl rfl (ev_sidx rfl rfl ty_string h8)) ?_
      refine awpl_op rfl (opTo_q (d := 13) rfl rfl (ev_eql rfl rfl)) ?_
      refine awpl_nil ?_
      refine kthen_normal ?_
      refine awp_cond rfl (fun c9 => ?_) (fun c9 => ?_)
      · replace hr := cond_t c9 hr
        refine awp_seq ?_
        refine awp_region ?_
        refine awpl_op rfl (opTo_q (d := 14) rfl rfl ev_move) ?_
        refine awpl_op rfl (opTo_q (d := 2) rfl rfl ev_assign) ?_
        refine awpl_nil ?_
        refine kthen_normal ?_
        refine awp_ret ?_
        refine kblock_ret ?_
        refine kthen_ret ?_
        cases hr
        exact ⟨by simp, rfl, (frLe_cons rfl frLe_nil), stoLe_nil⟩
      · replace hr := cond_f c9 hr
        refine awp_skip ?_
        refine kblock_normal ?_
        refine kthen_normal ?_
        refine awp_region ?_
        refine awpl_op rfl (opTo_q (d := 8) rfl rfl ev_move) ?_
        refine awpl_op rfl (opTo_q (d := 9) rfl rfl (ev_add rfl rfl)) ?_
        refine awpl_op rfl (opTo_q (d := 3) rfl rfl ev_assign) ?_
        refine awpl_nil ?_
        cases hr
        exact ⟨rfl, (frLe_cons rfl (frLe_cons rfl frLe_nil)), stoLe_nil⟩
    · replace hr := cond_f c6 hr
      refine awp_exit ?_
      refine kthen_exit ?_
      cases hr
      exact ⟨by simp, rfl, (frLe_cons rfl frLe_nil), stoLe_nil⟩
  · intro e fr2 st2 hq
    rcases o4 with b2 | b3
    · obtain ⟨rfl, hf, hs⟩ := hq
      refine kblock_exit ?_
      refine kthen_normal ?_
      refine awp_le hf hs ?_
      refine awp_seq ?_
      refine awp_region ?_
      refine awpl_op rfl (opTo_q (d := 15) rfl rfl ev_move) ?_
      refine awpl_op rfl (opTo_q (d := 16) rfl rfl (ev_slen rfl ty_string.u)) ?_
      refine awpl_op rfl (opTo_q (d := 2) rfl rfl ev_assign) ?_
      refine awpl_nil ?_
      refine kthen_normal ?_
      refine awp_ret ?_
      cases hr
      exact kret' rfl (.cons (res_tmp rfl) .nil) rfl
    · obtain ⟨rfl, hf, hs⟩ := hq
      refine kblock_ret ?_
      refine kthen_ret ?_
      cases hr
      exact kret' rfl (.cons (res1_le hf hs (res_tmp rfl)) .nil) rfl
end Go.Proofs.Ytlpmbmilnoncdaa

/- A function of the program computes what its Lean function does. Written by program. -/
namespace Go.Proofs.Ytlpmbmilnoncdaa
open Go.RowKit
set_option maxRecDepth 100000
set_option maxHeartbeats 40000000
set_option linter.unusedVariables false
theorem R_AddressOk_run (a0 : Str) (r : Bool) (hr : R_AddressOk a0 = some r) : Run Try.prog 49 [.s a0] (.bo r) := by
  unfold R_AddressOk at hr
  refine run_of_awp (fn := Try.f49) ⟨Try.func49, rfl, by kernel_rfl⟩ rfl (fun _ => rfl) fun g0 hg => ?_
  refine awp_seq ?_
  refine awp_region ?_
  refine awpl_op rfl (opTo_q (d := 2) rfl rfl ev_assign) ?_
  refine awpl_nil ?_
  refine kthen_normal ?_
  refine awp_seq ?_
  refine awp_region ?_
  refine awpl_op rfl (opTo_q (d := 6) rfl rfl ev_move) ?_
  obtain ⟨v1, h2, hr⟩ := bind_some hr
  refine awpl_op rfl (opTo_call (k := 7) (R_sign_run a0 v1 h2) rfl rfl) ?_
  refine awpl_op rfl (opTo_q (d := 3) rfl rfl ev_assign) ?_
  refine awpl_nil ?_
  refine kthen_normal ?_
  refine awp_seq ?_
  refine awp_seq ?_
  refine awp_region ?_
  refine awpl_op rfl (opTo_q (d := 4) rfl rfl ev_assign) ?_
  refine awpl_nil ?_
  refine kthen_normal ?_
  refine awp_block ?_
  obtain ⟨o6, hl, hr⟩ := bind_some hr
  refine awp_loop (R_AddressOk_l1 a0 v1) (fun s3 => [(0, .s a0), (3, .i v1), (4, .i s3)]) (fun s3 => []) (fun o => match o with | .inl b4 => At (.exit 0) [(0, .s a0), (3, .i v1)] [] | .inr b5 => At .ret [(2, .bo b5)] []) ?_ 0 hl (frLe_cons rfl (frLe_cons rfl (frLe_cons rfl frLe_nil))) stoLe_nil ?_
  · intro s3 x7 hr
    unfold R_AddressOk_l1 at hr
    refine awp_seq ?_
    refine awp_seq ?_
    refine awp_region ?_
    refine awpl_op rfl (opTo_q (d := 8) rfl rfl ev_move) ?_
    refine awpl_op rfl (opTo_q (d := 9) rfl rfl ev_move) ?_
    refine awpl_op rfl (opTo_q (d := 10) rfl rfl (ev_lss rfl rfl)) ?_
    refine awpl_nil ?_
    refine kthen_normal ?_
    refine awp_cond rfl (fun c8 => ?_) (fun c8 => ?_)
    · replace hr := cond_t c8 hr
      refine awp_skip ?_
      refine kthen_normal ?_
      refine awp_seq ?_
      refine awp_block ?_
      refine awp_seq ?_
      refine awp_region ?_
      refine awpl_op rfl (opTo_q (d := 13) rfl rfl ev_move) ?_
      refine awpl_op rfl (opTo_q (d := 14) rfl rfl ev_move) ?_
      obtain ⟨v9, h10, hr⟩ := bind_some hr
      refine awpl_op rfl (opTo_q (d := 15) rfl rfl (ev_sidx rfl rfl ty_string h10)) ?_
      refine awpl_op rfl (opTo_q (d := 5) rfl rfl ev_assign) ?_
      refine awpl_nil ?_
      refine kthen_normal ?_
      obtain ⟨j11, hx, hy⟩ := bind_some hr
      refine awp_join (fun j11 => [(0, .s a0), (3, .i v1), (4, .i s3), (38, .bo j11)]) (fun j11 => []) (fun z => j11 = z) ?_ ?_
      · have hr := hx
        clear hx hy
        refine awp_region ?_
        refine awpl_op rfl (opTo_q (d := 16) rfl rfl ev_move) ?_
        obtain ⟨v12, h13, hr⟩ := bind_some hr
        refine awpl_op rfl (opTo_call (k := 17) (R_letterOrDigit_run v9 v12 h13) rfl rfl) ?_
        refine awpl_op rfl (opTo_q (d := 18) rfl rfl (ev_not rfl)) ?_
        refine awpl_op rfl (opTo_q (d := 19) rfl rfl ev_move) ?_
        refine bool_split ((!v12)) (fun c14 => ?_) (fun c14 => ?_)
        · replace hr := cond_t c14 hr
          refine awpl_yes (d := 19) rfl rfl rfl c14 (opTo_q (d := 20) rfl rfl ev_move) ?_
          refine awpl_yes (d := 19) rfl rfl rfl c14 (opTo_q (d := 21) rfl rfl (ev_neq rfl rfl)) ?_
          refine awpl_op rfl (opTo_q (d := 22) rfl rfl (ev_pick_t rfl c14)) ?_
          refine awpl_op rfl (opTo_q (d := 23) rfl rfl ev_move) ?_
          refine bool_split (((v9.toNat : Int) != 45)) (fun c15 => ?_) (fun c15 => ?_)
          · replace hr := cond_t c15 hr
            refine awpl_yes (d := 23) rfl rfl rfl c15 (opTo_q (d := 24) rfl rfl ev_move) ?_
            refine awpl_yes (d := 23) rfl rfl rfl c15 (opTo_q (d := 25) rfl rfl (ev_neq rfl rfl)) ?_
            refine awpl_op rfl (opTo_q (d := 26) rfl rfl (ev_pick_t rfl c15)) ?_
            refine awpl_op rfl (opTo_q (d := 27) rfl rfl ev_move) ?_
            refine bool_split (((v9.toNat : Int) != 95)) (fun c16 => ?_) (fun c16 => ?_)
            · replace hr := cond_t c16 hr
              refine awpl_yes (d := 27) rfl rfl rfl c16 (opTo_q (d := 28) rfl rfl ev_move) ?_
              refine awpl_yes (d := 27) rfl rfl rfl c16 (opTo_q (d := 29) rfl rfl (ev_neq rfl rfl)) ?_
              refine awpl_op rfl (opTo_q (d := 30) rfl rfl (ev_pick_t rfl c16)) ?_
              refine awpl_op rfl (opTo_q (d := 31) rfl rfl ev_move) ?_
              refine bool_split (((v9.toNat : Int) != 46)) (fun c17 => ?_) (fun c17 => ?_)
              · replace hr := cond_t c17 hr
                refine awpl_yes (d := 31) rfl rfl rfl c17 (opTo_q (d := 32) rfl rfl ev_move) ?_
                refine awpl_yes (d := 31) rfl rfl rfl c17 (opTo_q (d := 33) rfl rfl (ev_neq rfl rfl)) ?_
                refine awpl_op rfl (opTo_q (d := 34) rfl rfl (ev_pick_t rfl c17)) ?_
                refine awpl_op rfl (opTo_q (d := 35) rfl rfl ev_move) ?_
                refine bool_split (((v9.toNat : Int) != 43)) (fun c18 => ?_) (fun c18 => ?_)
                · replace hr := cond_t c18 hr
                  refine awpl_yes (d := 35) rfl rfl rfl c18 (opTo_q (d := 36) rfl rfl ev_move) ?_
                  refine awpl_yes (d := 35) rfl rfl rfl c18 (opTo_q (d := 37) rfl rfl (ev_neq rfl rfl)) ?_
                  refine awpl_op rfl (opTo_q (d := 38) rfl rfl (ev_pick_t rfl c18)) ?_
                  refine awpl_nil ?_
                  cases hr
                  exact joinK_normal _ rfl (frLe_cons rfl (frLe_cons rfl (frLe_cons rfl (frLe_cons rfl frLe_nil)))) stoLe_nil
                · replace hr := cond_f c18 hr
                  refine awpl_no (d := 35) rfl rfl rfl c18 ?_
                  refine awpl_no (d := 35) rfl rfl rfl c18 ?_
                  refine awpl_op rfl (opTo_q (d := 38) rfl rfl (ev_pick_f rfl c18)) ?_
                  refine awpl_nil ?_
                  cases hr
                  exact joinK_normal _ rfl (frLe_cons rfl (frLe_cons rfl (frLe_cons rfl (frLe_cons rfl frLe_nil)))) stoLe_nil
              · replace hr := cond_f c17 hr
                refine awpl_no (d := 31) rfl rfl rfl c17 ?_
                refine awpl_no (d := 31) rfl rfl rfl c17 ?_
                refine awpl_op rfl (opTo_q (d := 34) rfl rfl (ev_pick_f rfl c17)) ?_
                refine awpl_op rfl (opTo_q (d := 35) rfl rfl ev_move) ?_
                refine awpl_no (d := 35) rfl rfl rfl rfl ?_
                refine awpl_no (d := 35) rfl rfl rfl rfl ?_
                refine awpl_op rfl (opTo_q (d := 38) rfl rfl (ev_pick_f rfl rfl)) ?_
                refine awpl_nil ?_
                cases hr
                exact joinK_normal _ rfl (frLe_cons rfl (frLe_cons rfl (frLe_cons rfl (frLe_cons rfl frLe_nil)))) stoLe_nil
            · replace hr := cond_f c16 hr
              refine awpl_no (d := 27) rfl rfl rfl c16 ?_
              refine awpl_no (d := 27) rfl rfl rfl c16 ?_
              refine awpl_op rfl (opTo_q (d := 30) rfl rfl (ev_pick_f rfl c16)) ?_
              refine awpl_op rfl (opTo_q (d := 31) rfl rfl ev_move) ?_
              refine awpl_no (d := 31) rfl rfl rfl rfl ?_
              refine awpl_no (d := 31) rfl rfl rfl rfl ?_
              refine awpl_op rfl (opTo_q (d := 34) rfl rfl (ev_pick_f rfl rfl)) ?_
              refine awpl_op rfl (opTo_q (d := 35) rfl rfl ev_move) ?_
              refine awpl_no (d := 35) rfl rfl rfl rfl ?_
              refine awpl_no (d := 35) rfl rfl rfl rfl ?_
              refine awpl_op rfl (opTo_q (d := 38) rfl rfl (ev_pick_f rfl rfl)) ?_
              refine awpl_nil ?_
              cases hr
              exact joinK_normal _ rfl (frLe_cons rfl (frLe_cons rfl (frLe_cons rfl (frLe_cons rfl frLe_nil)))) stoLe_nil
          · replace hr := cond_f c15 hr
            refine awpl_no (d := 23) rfl rfl rfl c15 ?_
            refine awpl_no (d := 23) rfl rfl rfl c15 ?_
            refine awpl_op rfl (opTo_q (d := 26) rfl rfl (ev_pick_f rfl c15)) ?_
            refine awpl_op rfl (opTo_q (d := 27) rfl rfl ev_move) ?_
            refine awpl_no (d := 27) rfl rfl rfl rfl ?_
            refine awpl_no (d := 27) rfl rfl rfl rfl ?_
            refine awpl_op rfl (opTo_q (d := 30) rfl rfl (ev_pick_f rfl rfl)) ?_
            refine awpl_op rfl (opTo_q (d := 31) rfl rfl ev_move) ?_
            refine awpl_no (d := 31) rfl rfl rfl rfl ?_
            refine awpl_no (d := 31) rfl rfl rfl rfl ?_
            refine awpl_op rfl (opTo_q (d := 34) rfl rfl (ev_pick_f rfl rfl)) ?_
            refine awpl_op rfl (opTo_q (d := 35) rfl rfl ev_move) ?_
            refine awpl_no (d := 35) rfl rfl rfl rfl ?_
            refine awpl_no (d := 35) rfl rfl rfl rfl ?_
            refine awpl_op rfl (opTo_q (d := 38) rfl rfl (ev_pick_f rfl rfl)) ?_
            refine awpl_nil ?_
            cases hr
            exact joinK_normal _ rfl (frLe_cons rfl (frLe_cons rfl (frLe_cons rfl (frLe_cons rfl frLe_nil)))) stoLe_nil
        · replace hr := cond_f c14 hr
          refine awpl_no (d := 19) rfl rfl rfl c14 ?_
          refine awpl_no (d := 19) rfl rfl rfl c14 ?_
          refine awpl_op rfl (opTo_q (d := 22) rfl rfl (ev_pick_f rfl c14)) ?_
          refine awpl_op rfl (opTo_q (d := 23) rfl rfl ev_move) ?_
          refine awpl_no (d := 23) rfl rfl rfl rfl ?_
          refine awpl_no (d := 23) rfl rfl rfl rfl ?_
          refine awpl_op rfl (opTo_q (d := 26) rfl rfl (ev_pick_f rfl rfl)) ?_
          refine awpl_op rfl (opTo_q (d := 27) rfl rfl ev_move) ?_
          refine awpl_no (d := 27) rfl rfl rfl rfl ?_
          refine awpl_no (d := 27) rfl rfl rfl rfl ?_
          refine awpl_op rfl (opTo_q (d := 30) rfl rfl (ev_pick_f rfl rfl)) ?_
          refine awpl_op rfl (opTo_q (d := 31) rfl rfl ev_move) ?_
          refine awpl_no (d := 31) rfl rfl rfl rfl ?_
          refine awpl_no (d := 31) rfl rfl rfl rfl ?_
          refine awpl_op rfl (opTo_q (d := 34) rfl rfl (ev_pick_f rfl rfl)) ?_
          refine awpl_op rfl (opTo_q (d := 35) rfl rfl ev_move) ?_
          refine awpl_no (d := 35) rfl rfl rfl rfl ?_
          refine awpl_no (d := 35) rfl rfl rfl rfl ?_
          refine awpl_op rfl (opTo_q (d := 38) rfl rfl (ev_pick_f rfl rfl)) ?_
          refine awpl_nil ?_
          cases hr
          exact joinK_normal _ rfl (frLe_cons rfl (frLe_cons rfl (frLe_cons rfl (frLe_cons rfl frLe_nil)))) stoLe_nil
      · rintro _ rfl
        have hr := hy
        clear hx hy
        refine awp_cond rfl (fun c19 => ?_) (fun c19 => ?_)
        · replace hr := cond_t c19 hr
          refine awp_seq ?_
          refine awp_region ?_
          refine awpl_op rfl (opTo_q (d := 2) rfl rfl ev_assign) ?_
          refine awpl_nil ?_
          refine kthen_normal ?_
          refine awp_ret ?_
          refine kblock_ret ?_
          refine kthen_ret ?_
          cases hr
          exact ⟨by simp, rfl, (frLe_cons rfl frLe_nil), stoLe_nil⟩
        · replace hr := cond_f c19 hr
          refine awp_skip ?_
          refine kblock_normal ?_
          refine kthen_normal ?_
          refine awp_region ?_
          refine awpl_op rfl (opTo_q (d := 11) rfl rfl ev_move) ?_
          refine awpl_op rfl (opTo_q (d := 12) rfl rfl (ev_add rfl rfl)) ?_
          refine awpl_op rfl (opTo_q (d := 4) rfl rfl ev_assign) ?_
          refine awpl_nil ?_
          cases hr
          exact ⟨rfl, (frLe_cons rfl (frLe_cons rfl (frLe_cons rfl frLe_nil))), stoLe_nil⟩
    · replace hr := cond_f c8 hr
      refine awp_exit ?_
      refine kthen_exit ?_
      cases hr
      exact ⟨by simp, rfl, (frLe_cons rfl (frLe_cons rfl frLe_nil)), stoLe_nil⟩
  · intro e fr2 st2 hq
    rcases o6 with b4 | b5
    · obtain ⟨rfl, hf, hs⟩ := hq
      refine kblock_exit ?_
      refine kthen_normal ?_
      refine awp_le hf hs ?_
      obtain ⟨j20, hx, hy⟩ := bind_some hr
      refine awp_join (fun j20 => [(2, .bo j20)]) (fun j20 => []) (fun z => j20 = z) ?_ ?_
      · have hr := hx
        clear hx hy
        refine awp_region ?_
        refine awpl_op rfl (opTo_q (d := 39) rfl rfl ev_move) ?_
        obtain ⟨v21, h22, hr⟩ := bind_some hr
        refine awpl_op rfl (opTo_call (k := 40) (R_In_run v1 1 60 v21 h22) rfl rfl) ?_
        refine awpl_op rfl (opTo_q (d := 41) rfl rfl ev_move) ?_
        refine bool_split v21 (fun c23 => ?_) (fun c23 => ?_)
        · replace hr := cond_t c23 hr
          refine awpl_yes (d := 41) rfl rfl rfl c23 (opTo_q (d := 42) rfl rfl ev_move) ?_
          refine awpl_yes (d := 41) rfl rfl rfl c23 (opTo_q (d := 43) rfl rfl ev_move) ?_
          refine awpl_yes (d := 41) rfl rfl rfl c23 (opTo_q (d := 44) rfl rfl (ev_slen rfl ty_string.u)) ?_
          refine awpl_yes (d := 41) rfl rfl rfl c23 (opTo_q (d := 45) rfl rfl (ev_lss rfl rfl)) ?_
          refine awpl_op rfl (opTo_q (d := 46) rfl rfl (ev_pick_t rfl c23)) ?_
          refine awpl_op rfl (opTo_q (d := 47) rfl rfl ev_move) ?_
          refine bool_split (decide (v1 < (a0.length : Int))) (fun c24 => ?_) (fun c24 => ?_)
          · replace hr := cond_t c24 hr
            refine awpl_yes (d := 47) rfl rfl rfl c24 (opTo_q (d := 48) rfl rfl ev_move) ?_
            refine awpl_yes (d := 47) rfl rfl rfl c24 (opTo_q (d := 49) rfl rfl ev_move) ?_
            refine awpl_yes (d := 47) rfl rfl rfl c24 (opTo_q (d := 50) rfl rfl (ev_add rfl rfl)) ?_
            obtain ⟨v25, h26, hr⟩ := bind_some hr
            refine awpl_yes (d := 47) rfl rfl rfl c24 (opTo_q (d := 51) rfl rfl (ev_scutL rfl rfl ty_string h26)) ?_
            obtain ⟨v27, h28, hr⟩ := bind_some hr
            refine awpl_yes (d := 47) rfl rfl rfl c24 (opTo_call (k := 52) (R_DomainOk_run v25 v27 h28) rfl rfl) ?_
            refine awpl_op rfl (opTo_q (d := 53) rfl rfl (ev_pick_t rfl c24)) ?_
            refine awpl_op rfl (opTo_q (d := 2) rfl rfl ev_assign) ?_
            refine awpl_nil ?_
            cases hr
            exact joinK_normal _ rfl (frLe_cons rfl frLe_nil) stoLe_nil
          · replace hr := cond_f c24 hr
            refine awpl_no (d := 47) rfl rfl rfl c24 ?_
            refine awpl_no (d := 47) rfl rfl rfl c24 ?_
            refine awpl_no (d := 47) rfl rfl rfl c24 ?_
            refine awpl_no (d := 47) rfl rfl rfl c24 ?_
            refine awpl_no (d := 47) rfl rfl rfl c24 ?_
            refine awpl_op rfl (opTo_q (d := 53) rfl rfl (ev_pick_f rfl c24)) ?_
            refine awpl_op rfl (opTo_q (d := 2) rfl rfl ev_assign) ?_
            refine awpl_nil ?_
            cases hr
            exact joinK_normal _ rfl (frLe_cons rfl frLe_nil) stoLe_nil
        · replace hr := cond_f c23 hr
          refine awpl_no (d := 41) rfl rfl rfl c23 ?_
          refine awpl_no (d := 41) rfl rfl rfl c23 ?_
          refine awpl_no (d := 41) rfl rfl rfl c23 ?_
          refine awpl_no (d := 41) rfl rfl rfl c23 ?_
          refine awpl_op rfl (opTo_q (d := 46) rfl rfl (ev_pick_f rfl c23)) ?_
          refine awpl_op rfl (opTo_q (d := 47) rfl rfl ev_move) ?_
          refine awpl_no (d := 47) rfl rfl rfl rfl ?_
          refine awpl_no (d := 47) rfl rfl rfl rfl ?_
          refine awpl_no (d := 47) rfl rfl rfl rfl ?_
          refine awpl_no (d := 47) rfl rfl rfl rfl ?_
          refine awpl_no (d := 47) rfl rfl rfl rfl ?_
          refine awpl_op rfl (opTo_q (d := 53) rfl rfl (ev_pick_f rfl rfl)) ?_
          refine awpl_op rfl (opTo_q (d := 2) rfl rfl ev_assign) ?_
          refine awpl_nil ?_
          cases hr
          exact joinK_normal _ rfl (frLe_cons rfl frLe_nil) stoLe_nil
      · rintro _ rfl
        have hr := hy
        clear hx hy
        refine awp_ret ?_
        cases hr
        exact kret' rfl (.cons (res_tmp rfl) .nil) rfl
    · obtain ⟨rfl, hf, hs⟩ := hq
      refine kblock_ret ?_
      refine kthen_ret ?_
      cases hr
      exact kret' rfl (.cons (res1_le hf hs (res_tmp rfl)) .nil) rfl
end Go.Proofs.Ytlpmbmilnoncdaa
