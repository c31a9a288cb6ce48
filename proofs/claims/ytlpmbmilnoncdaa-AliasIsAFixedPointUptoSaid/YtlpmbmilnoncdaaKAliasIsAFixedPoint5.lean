/- Part 5 of the proof of the law AliasIsAFixedPoint: what it needs. -/
import Derived.Test.YtlpmbmilnoncdaaKAliasIsAFixedPoint4
import Derived.WalkKit
import Derived.WalkSpells
import Derived.WalkLawsBesides
import Derived.Deep.QuietTactic
import Derived.BigQuiet
import Derived.Lib.Hide
import Derived.Handy
import Derived.Deep.RegionHeld3
/- A function of the program computes what its Lean function does. Written by program. -/
namespace Go.Proofs.Ytlpmbmilnoncdaa
open Go.RowKit
set_option maxRecDepth 100000
set_option maxHeartbeats 40000000
set_option linter.unusedVariables false
theorem alias_Expand_run (a0 : List TAlias) (a1 : Str) (r : (List Str) × TFault) (hr : alias_Expand a0 a1 = some r) : Run Try.prog 28 [.l TAlias.pc a0, .s a1] (.tup [.l cS r.1, .agg [.i r.2.Code, .i r.2.Index]]) := by
  unfold alias_Expand at hr
  refine run_of_awp (fn := Try.f28) ⟨Try.func28, rfl, by kernel_rfl⟩ rfl (fun _ => rfl) fun g0 hg => ?_
  refine awp_seq ?_
  refine awp_region ?_
  refine awpl_op rfl (opTo_q (d := 4) rfl rfl ev_assign) ?_
  refine awpl_op rfl (opTo_alloc (k := 5) 5 rfl ty_api_Fault (.inr ⟨rfl, rfl⟩) rfl rfl rfl) ?_
  refine awpl_nil ?_
  refine kthen_normal ?_
  refine awp_seq ?_
  refine awp_seq ?_
  refine awp_region ?_
  refine awpl_op rfl (opTo_q (d := 10) rfl rfl ev_move) ?_
  obtain ⟨v1, h2, hr⟩ := bind_some hr
  refine awpl_op rfl (opTo_call (k := 11) (alias_Validate_run a0 v1 h2) rfl rfl) ?_
  refine awpl_op rfl (opTo_alloc (k := 6) 6 rfl ty_api_Fault (.inr ⟨rfl, rfl⟩) rfl rfl rfl) ?_
  refine awpl_op rfl (opTo_store rfl rfl rfl ty_api_Fault rfl rfl) ?_
  refine awpl_nil ?_
  refine kthen_normal ?_
  refine awp_seq ?_
  refine awp_region ?_
  refine awpl_op rfl (opTo_q (d := 12) rfl rfl (ev_loadN rfl rfl ty_api_Fault rfl rfl)) ?_
  obtain ⟨v3, h4, hr⟩ := bind_some hr
  refine awpl_op rfl (opTo_call (k := 13) (basic_Failed_run v1 v3 h4) rfl rfl) ?_
  refine awpl_nil ?_
  refine kthen_normal ?_
  refine awp_cond rfl (fun c5 => ?_) (fun c5 => ?_)
  · replace hr := cond_t c5 hr
    refine awp_seq ?_
    refine awp_drawn 2 [(4, .pv (.sl (some true) [])), (14, .agg [.i v1.Code, .i v1.Index])] mixed (by kernel_rfl) rfl rfl (.run (.plain rfl) (opG_q (ev_loadN rfl rfl ty_api_Fault rfl rfl)) (.run (.plain rfl) (opG_q ev_assign) .nil)) rfl ?_
    refine awpl_op rfl (opTo_store rfl rfl rfl ty_api_Fault rfl rfl) ?_
    refine awpl_nil ?_
    refine kthen_normal ?_
    refine awp_ret ?_
    refine kthen_ret ?_
    cases hr
    exact kret' rfl (.cons (res_tmp rfl) (.cons (res_cellN rfl rfl ty_api_Fault rfl rfl) .nil)) rfl
  · replace hr := cond_f c5 hr
    refine awp_skip ?_
    refine kthen_normal ?_
    refine awp_seq ?_
    refine awp_seq ?_
    refine awp_region ?_
    refine awpl_op rfl (opTo_q (d := 15) rfl rfl ev_move) ?_
    obtain ⟨v6, h7, hr⟩ := bind_some hr
    refine awpl_op rfl (opTo_call (k := 16) (envelope_Address_run a1 v6 h7) rfl rfl) ?_
    refine awpl_op rfl (opTo_q (d := 17) rfl rfl (ev_not rfl)) ?_
    refine awpl_nil ?_
    refine kthen_normal ?_
    refine awp_cond rfl (fun c8 => ?_) (fun c8 => ?_)
    · replace hr := cond_t c8 hr
      refine awp_seq ?_
      refine awp_region ?_
      obtain ⟨v9, h10, hr⟩ := bind_some hr
      refine awpl_op rfl (opTo_call (k := 18) (basic_Fault_run 10 ((-2)) v9 h10) rfl rfl) ?_
      refine awpl_op rfl (opTo_q (d := 4) rfl rfl ev_assign) ?_
      refine awpl_op rfl (opTo_store rfl rfl rfl ty_api_Fault rfl rfl) ?_
      refine awpl_nil ?_
      refine kthen_normal ?_
      refine awp_ret ?_
      refine kthen_ret ?_
      cases hr
      exact kret' rfl (.cons (res_tmp rfl) (.cons (res_cellN rfl rfl ty_api_Fault rfl rfl) .nil)) rfl
    · replace hr := cond_f c8 hr
      refine awp_skip ?_
      refine kthen_normal ?_
      refine awp_seq ?_
      refine awp_region ?_
      refine awpl_op rfl (opTo_q (d := 19) rfl rfl ev_move) ?_
      refine awpl_inl (fn := Try.f47) (args := [.l TAlias.pc a0]) 100000 199999 [(0, .l TAlias.pc a0), (1, .s a1), (5, .ptr 5 0)] (wanted_plain rfl) rfl ⟨Try.func47, rfl, by kernel_rfl⟩ rfl rfl (.cons rfl (.cons rfl (.cons rfl .nil))) fun T1 ds1 hT1 => ?_
      refine awp_seq ?_
      refine awp_region ?_
      refine awpl_op rfl (opTo_q (d := 2) rfl rfl ev_assign) ?_
      refine awpl_nil ?_
      refine kthen_normal ?_
      refine awp_seq ?_
      refine awp_region ?_
      refine awpl_op rfl (opTo_makeMap (k0 := 6) 1006 false rfl rfl rfl) ?_
      refine awpl_op rfl (opTo_q (d := 3) rfl rfl ev_assign) ?_
      refine awpl_nil ?_
      refine kthen_normal ?_
      refine awp_seq ?_
      refine awp_seq ?_
      refine awp_region ?_
      refine awpl_op rfl (opTo_q (d := 7) rfl rfl ev_move) ?_
      refine awpl_op rfl (opTo_q (d := 8) rfl rfl (ev_llen (f := TAlias.pc) rfl ty_s_api_Alias.u)) ?_
      refine awpl_op rfl (opTo_q (d := 9) rfl rfl ev_move) ?_
      refine awpl_nil ?_
      refine kthen_normal ?_
      refine awp_block ?_
      obtain ⟨b12, hl, hr⟩ := bind_some hr
      refine awp_loop (alias_Expand_l1 a0) (fun s11 => [(3, .mp 1006), (7, .l TAlias.pc a0), (8, .i ((a0.length : Int))), (9, .i s11.1)]) (fun s11 => [(1006, .mapo false (menc keyS (cL cS) s11.2)), (199999, .sus g0.w.heap.size ds1), (100000, .hold (.l TAlias.pc a0) (T1.getD 0 undef)), (100001, .hold (.s a1) (T1.getD 1 undef)), (100005, .hold (.ptr 5 0) (T1.getD 5 undef)), (5, .cells [.i 0, .i 0])]) (fun b12 => At (.exit 0) [(3, .mp 1006)] [(1006, .mapo false (menc keyS (cL cS) b12)), (199999, .sus g0.w.heap.size ds1), (100000, .hold (.l TAlias.pc a0) (T1.getD 0 undef)), (100001, .hold (.s a1) (T1.getD 1 undef)), (100005, .hold (.ptr 5 0) (T1.getD 5 undef)), (5, .cells [.i 0, .i 0])]) ?_ ((0, ([] : List (Str × (List Str))))) hl (frLe_cons rfl (frLe_cons rfl (frLe_cons rfl (frLe_cons rfl frLe_nil)))) (stoLe_cons rfl (stoLe_cons rfl (stoLe_cons rfl (stoLe_cons rfl (stoLe_cons rfl (stoLe_cons rfl stoLe_nil)))))) ?_
      · intro s11 x13 hr
        unfold alias_Expand_l1 at hr
        refine awp_seq ?_
        refine awp_region ?_
        refine awpl_op rfl (opTo_q (d := 10) rfl rfl (ev_lss rfl rfl)) ?_
        refine awpl_nil ?_
        refine kthen_normal ?_
        refine awp_seq ?_
        refine awp_cond rfl (fun c14 => ?_) (fun c14 => ?_)
        · replace hr := cond_t c14 hr
          refine awp_skip ?_
          refine kthen_normal ?_
          refine awp_seq ?_
          refine awp_block ?_
          refine awp_seq ?_
          refine awp_region ?_
          obtain ⟨v15, h16, hr⟩ := bind_some hr
          refine awpl_op rfl (opTo_q (d := 11) rfl rfl (ev_idx (f := TAlias.pc) rfl rfl ty_s_api_Alias ty_api_Alias rfl h16)) ?_
          refine awpl_op rfl (opTo_q (d := 12) rfl rfl (ev_load_epN rfl ty_api_Alias rfl rfl)) ?_
          refine awpl_op rfl (opTo_alloc (k := 5) 1005 rfl ty_api_Alias (.inr ⟨rfl, rfl⟩) rfl rfl rfl) ?_
          refine awpl_op rfl (opTo_store rfl rfl rfl ty_api_Alias rfl rfl) ?_
          refine awpl_nil ?_
          refine kthen_normal ?_
          refine awp_region ?_
          refine awpl_op rfl (opTo_q (d := 13) rfl rfl ev_move) ?_
          refine awpl_op rfl (opTo_q (d := 14) rfl rfl (ev_fieldAddr rfl ty_api_Alias.u rfl ty_string rfl)) ?_
          refine awpl_op rfl (opTo_q (d := 15) rfl rfl (ev_load rfl rfl ty_string rfl rfl)) ?_
          refine awpl_op rfl (opTo_q (d := 16) rfl rfl (ev_fieldAddr rfl ty_api_Alias.u rfl ty_s_string rfl)) ?_
          refine awpl_op rfl (opTo_q (d := 17) rfl rfl (ev_load rfl rfl ty_s_string rfl rfl)) ?_
          refine awpl_op rfl (opTo_mapUpdate (KK := keyS) (F := (cL cS)) (es := s11.2) (k := v15.Address) (v := v15.To) rfl rfl rfl rfl rfl ty_map_string_s_string.u ty_string.u) ?_
          refine awpl_nil ?_
          refine kblock_normal ?_
          refine kthen_normal ?_
          refine awp_region ?_
          refine awpl_op rfl (opTo_q (d := 18) rfl rfl (ev_add rfl rfl)) ?_
          refine awpl_op rfl (opTo_q (d := 9) rfl rfl ev_move) ?_
          refine awpl_nil ?_
          cases hr
          exact ⟨rfl, (frLe_cons rfl (frLe_cons rfl (frLe_cons rfl (frLe_cons rfl frLe_nil)))), (stoLe_cons rfl (stoLe_cons rfl (stoLe_cons rfl (stoLe_cons rfl (stoLe_cons rfl (stoLe_cons rfl stoLe_nil))))))⟩
        · replace hr := cond_f c14 hr
          refine awp_exit ?_
          refine kthen_exit ?_
          cases hr
          exact ⟨by simp, rfl, (frLe_cons rfl frLe_nil), (stoLe_cons rfl (stoLe_cons rfl (stoLe_cons rfl (stoLe_cons rfl (stoLe_cons rfl (stoLe_cons rfl stoLe_nil))))))⟩
      · intro e fr2 st2 hq
        obtain ⟨rfl, hf, hs⟩ := hq
        refine kblock_exit ?_
        refine kthen_normal ?_
        refine awp_le hf hs ?_
        refine awp_seq ?_
        refine awp_region ?_
        refine awpl_op rfl (opTo_q (d := 19) rfl rfl ev_move) ?_
        refine awpl_op rfl (opTo_q (d := 2) rfl rfl ev_assign) ?_
        refine awpl_nil ?_
        refine kthen_normal ?_
        refine awp_ret ?_
        refine inlK (cs := [.mp 1006]) (fr'' := [(0, .l TAlias.pc a0), (1, .s a1), (5, .ptr 5 0)]) (σ'' := [(1006, .mapo false (menc keyS (cL cS) b12)), (5, .cells [.i 0, .i 0])]) (.inl rfl) frLe_refl stoLe_refl (.cons (res_tmp rfl) .nil) (.cons rfl (.cons rfl (.cons rfl .nil))) rfl (stoLe_cons rfl (stoLe_cons rfl stoLe_nil)) ?_
        refine awpl_op rfl (opTo_alloc (k := 7) 7 rfl ty_map_string_s_string (.inl rfl) rfl rfl rfl) ?_
        refine awpl_op rfl (opTo_store rfl rfl rfl ty_map_string_s_string rfl rfl) ?_
        refine awpl_nil ?_
        refine kthen_normal ?_
        refine awp_seq ?_
        refine awp_region ?_
        refine awpl_op rfl (opTo_alloc (k := 8) 8 rfl ty_s_string (.inl rfl) rfl rfl rfl) ?_
        refine awpl_adoptC 1008 (o := 8) (j := 0) 9 1 rfl rfl rfl rfl ?_
        refine awpl_nil ?_
        refine kthen_normal ?_
        refine awp_seq ?_
        refine awp_seq ?_
        refine awp_region ?_
        refine awpl_op rfl (opTo_q (d := 21) rfl rfl ev_move) ?_
        refine awpl_op rfl (opTo_q (d := 22) rfl rfl ev_move) ?_
        refine awpl_op rfl (opTo_g (d := 23) rfl rfl (opG_lit (F := cS) (l := ([a1] : List Str)) ty_s_string ty_string rfl (fun _ => rfl) rfl rfl)) ?_
        refine awpl_inl (fn := Try.f48) (args := [.l TAlias.pc a0, .l cS (([a1] : List Str))]) 1500000 1599999 [(5, .ptr 5 0), (7, .ptr 7 0), (8, .ptr 8 0)] (wanted_plain rfl) rfl ⟨Try.func48, rfl, by kernel_rfl⟩ rfl rfl (.cons rfl (.cons rfl (.cons rfl .nil))) fun T15 ds15 hT15 => ?_
        refine awp_seq ?_
        refine awp_region ?_
        refine awpl_op rfl (opTo_box (k := 2) 2 rfl rfl rfl rfl rfl) ?_
        refine awpl_op rfl (opTo_box (k := 3) 3 rfl rfl rfl rfl rfl) ?_
        refine awpl_op rfl (opTo_q (d := 4) rfl rfl ev_assign) ?_
        refine awpl_nil ?_
        refine kthen_normal ?_
        refine awp_seq ?_
        refine awp_region ?_
        refine awpl_op rfl (opTo_q (d := 5) rfl rfl (ev_makeFunc rfl rfl)) ?_
        refine awpl_op rfl (opTo_q (d := 4) rfl rfl ev_assign) ?_
        refine awpl_nil ?_
        refine kthen_normal ?_
        refine awp_ret ?_
        refine inlK (cs := [.fn (.func 61) [] [.ptr 2 0, .ptr 3 0]]) (fr'' := [(5, .ptr 5 0), (7, .ptr 7 0), (8, .ptr 8 0)]) (σ'' := [(3, .cells [.l cS (([a1] : List Str))]), (2, .cells [.l TAlias.pc a0]), (1008, .row 9 false 1 (List.map cS (([] : List Str)))), (8, .cells [.hs 1008 0]), (7, .cells [.mp 1006]), (1006, .mapo false (menc keyS (cL cS) b12)), (5, .cells [.i 0, .i 0])]) (.inl rfl) frLe_refl stoLe_refl (.cons (res_tmp rfl) .nil) (.cons rfl (.cons rfl (.cons rfl .nil))) rfl (stoLe_cons rfl (stoLe_cons rfl (stoLe_cons rfl (stoLe_cons rfl (stoLe_cons rfl (stoLe_cons rfl (stoLe_cons rfl stoLe_nil))))))) ?_
        refine awpl_nil ?_
        refine kthen_normal ?_
        refine awp_block ?_
        refine awp_rangef (fn0 := Try.f61) 1600000 1699998 1699999 [(5, .ptr 5 0), (7, .ptr 7 0), (8, .ptr 8 0), (24, .fn (.func 61) [] [.ptr 2 0, .ptr 3 0])] rfl rfl rfl ⟨Try.func61, rfl, by kernel_rfl⟩ rfl rfl rfl rfl rfl (.cons rfl (.cons rfl (.cons rfl (.cons rfl .nil)))) fun T16 b16 L16 ds16 hT16 hLs16 hLp16 hLt16 hLq16 hLa16 hLb16 => ?_
        refine awp_seq ?_
        refine awp_region ?_
        refine awpl_op rfl (opTo_q (d := 9) rfl rfl (ev_load rfl rfl ty_s_api_Alias rfl rfl)) ?_
        refine awpl_inl (fn := Try.f47) (args := [.l TAlias.pc a0]) 1700000 1799999 [(0, .fn (.yield b16) [] []), (2, .ptr 3 0)] (wanted_plain rfl) rfl ⟨Try.func47, rfl, by kernel_rfl⟩ rfl rfl (.cons rfl (.cons rfl .nil)) fun T17 ds17 hT17 => ?_
        refine awp_seq ?_
        refine awp_region ?_
        refine awpl_op rfl (opTo_q (d := 2) rfl rfl ev_assign) ?_
        refine awpl_nil ?_
        refine kthen_normal ?_
        refine awp_seq ?_
        refine awp_region ?_
        refine awpl_op rfl (opTo_makeMap (k0 := 6) 2006 false rfl rfl rfl) ?_
        refine awpl_op rfl (opTo_q (d := 3) rfl rfl ev_assign) ?_
        refine awpl_nil ?_
        refine kthen_normal ?_
        refine awp_seq ?_
        refine awp_seq ?_
        refine awp_region ?_
        refine awpl_op rfl (opTo_q (d := 7) rfl rfl ev_move) ?_
        refine awpl_op rfl (opTo_q (d := 8) rfl rfl (ev_llen (f := TAlias.pc) rfl ty_s_api_Alias.u)) ?_
        refine awpl_op rfl (opTo_q (d := 9) rfl rfl ev_move) ?_
        refine awpl_nil ?_
        refine kthen_normal ?_
        refine awp_block ?_
        obtain ⟨b18, hl, hr⟩ := bind_some hr
        refine awp_loop (alias_Expand_l2 a0) (fun s17 => [(3, .mp 2006), (7, .l TAlias.pc a0), (8, .i ((a0.length : Int))), (9, .i s17.1)]) (fun s17 => [(2006, .mapo false (menc keyS (cL cS) s17.2)), (1799999, .sus g0.w.heap.size ds17), (1700000, .hold (.fn (.yield b16) [] []) (T17.getD 0 undef)), (1700002, .hold (.ptr 3 0) (T17.getD 2 undef)), (1699999, .sus g0.w.heap.size ds16), (1699998, .lp b16 L16), (1600005, .hold (.ptr 5 0) (T16.getD 5 undef)), (1600007, .hold (.ptr 7 0) (T16.getD 7 undef)), (1600008, .hold (.ptr 8 0) (T16.getD 8 undef)), (1600024, .hold (.fn (.func 61) [] [.ptr 2 0, .ptr 3 0]) (T16.getD 24 undef)), (3, .cells [.l cS (([a1] : List Str))]), (2, .cells [.l TAlias.pc a0]), (1008, .row 9 false 1 (List.map cS (([] : List Str)))), (8, .cells [.hs 1008 0]), (7, .cells [.mp 1006]), (1006, .mapo false (menc keyS (cL cS) b12)), (5, .cells [.i 0, .i 0])]) (fun b18 => At (.exit 0) [(3, .mp 2006)] [(2006, .mapo false (menc keyS (cL cS) b18)), (1799999, .sus g0.w.heap.size ds17), (1700000, .hold (.fn (.yield b16) [] []) (T17.getD 0 undef)), (1700002, .hold (.ptr 3 0) (T17.getD 2 undef)), (1699999, .sus g0.w.heap.size ds16), (1699998, .lp b16 L16), (1600005, .hold (.ptr 5 0) (T16.getD 5 undef)), (1600007, .hold (.ptr 7 0) (T16.getD 7 undef)), (1600008, .hold (.ptr 8 0) (T16.getD 8 undef)), (1600024, .hold (.fn (.func 61) [] [.ptr 2 0, .ptr 3 0]) (T16.getD 24 undef)), (3, .cells [.l cS (([a1] : List Str))]), (2, .cells [.l TAlias.pc a0]), (1008, .row 9 false 1 (List.map cS (([] : List Str)))), (8, .cells [.hs 1008 0]), (7, .cells [.mp 1006]), (1006, .mapo false (menc keyS (cL cS) b12)), (5, .cells [.i 0, .i 0])]) ?_ ((0, ([] : List (Str × (List Str))))) hl (frLe_cons rfl (frLe_cons rfl (frLe_cons rfl (frLe_cons rfl frLe_nil)))) (stoLe_cons rfl (stoLe_cons rfl (stoLe_cons rfl (stoLe_cons rfl (stoLe_cons rfl (stoLe_cons rfl (stoLe_cons rfl (stoLe_cons rfl (stoLe_cons rfl (stoLe_cons rfl (stoLe_cons rfl (stoLe_cons rfl (stoLe_cons rfl (stoLe_cons rfl (stoLe_cons rfl (stoLe_cons rfl (stoLe_cons rfl stoLe_nil))))))))))))))))) ?_
        · intro s17 x19 hr
          unfold alias_Expand_l2 at hr
          refine awp_seq ?_
          refine awp_region ?_
          refine awpl_op rfl (opTo_q (d := 10) rfl rfl (ev_lss rfl rfl)) ?_
          refine awpl_nil ?_
          refine kthen_normal ?_
          refine awp_seq ?_
          refine awp_cond rfl (fun c20 => ?_) (fun c20 => ?_)
          · replace hr := cond_t c20 hr
            refine awp_skip ?_
            refine kthen_normal ?_
            refine awp_seq ?_
            refine awp_block ?_
            refine awp_seq ?_
            refine awp_region ?_
            obtain ⟨v21, h22, hr⟩ := bind_some hr
            refine awpl_op rfl (opTo_q (d := 11) rfl rfl (ev_idx (f := TAlias.pc) rfl rfl ty_s_api_Alias ty_api_Alias rfl h22)) ?_
            refine awpl_op rfl (opTo_q (d := 12) rfl rfl (ev_load_epN rfl ty_api_Alias rfl rfl)) ?_
            refine awpl_op rfl (opTo_alloc (k := 5) 1005 rfl ty_api_Alias (.inr ⟨rfl, rfl⟩) rfl rfl rfl) ?_
            refine awpl_op rfl (opTo_store rfl rfl rfl ty_api_Alias rfl rfl) ?_
            refine awpl_nil ?_
            refine kthen_normal ?_
            refine awp_region ?_
            refine awpl_op rfl (opTo_q (d := 13) rfl rfl ev_move) ?_
            refine awpl_op rfl (opTo_q (d := 14) rfl rfl (ev_fieldAddr rfl ty_api_Alias.u rfl ty_string rfl)) ?_
            refine awpl_op rfl (opTo_q (d := 15) rfl rfl (ev_load rfl rfl ty_string rfl rfl)) ?_
            refine awpl_op rfl (opTo_q (d := 16) rfl rfl (ev_fieldAddr rfl ty_api_Alias.u rfl ty_s_string rfl)) ?_
            refine awpl_op rfl (opTo_q (d := 17) rfl rfl (ev_load rfl rfl ty_s_string rfl rfl)) ?_
            refine awpl_op rfl (opTo_mapUpdate (KK := keyS) (F := (cL cS)) (es := s17.2) (k := v21.Address) (v := v21.To) rfl rfl rfl rfl rfl ty_map_string_s_string.u ty_string.u) ?_
            refine awpl_nil ?_
            refine kblock_normal ?_
            refine kthen_normal ?_
            refine awp_region ?_
            refine awpl_op rfl (opTo_q (d := 18) rfl rfl (ev_add rfl rfl)) ?_
            refine awpl_op rfl (opTo_q (d := 9) rfl rfl ev_move) ?_
            refine awpl_nil ?_
            cases hr
            exact ⟨rfl, (frLe_cons rfl (frLe_cons rfl (frLe_cons rfl (frLe_cons rfl frLe_nil)))), (stoLe_cons rfl (stoLe_cons rfl (stoLe_cons rfl (stoLe_cons rfl (stoLe_cons rfl (stoLe_cons rfl (stoLe_cons rfl (stoLe_cons rfl (stoLe_cons rfl (stoLe_cons rfl (stoLe_cons rfl (stoLe_cons rfl (stoLe_cons rfl (stoLe_cons rfl (stoLe_cons rfl (stoLe_cons rfl (stoLe_cons rfl stoLe_nil)))))))))))))))))⟩
          · replace hr := cond_f c20 hr
            refine awp_exit ?_
            refine kthen_exit ?_
            cases hr
            exact ⟨by simp, rfl, (frLe_cons rfl frLe_nil), (stoLe_cons rfl (stoLe_cons rfl (stoLe_cons rfl (stoLe_cons rfl (stoLe_cons rfl (stoLe_cons rfl (stoLe_cons rfl (stoLe_cons rfl (stoLe_cons rfl (stoLe_cons rfl (stoLe_cons rfl (stoLe_cons rfl (stoLe_cons rfl (stoLe_cons rfl (stoLe_cons rfl (stoLe_cons rfl (stoLe_cons rfl stoLe_nil)))))))))))))))))⟩
        · intro e fr2 st2 hq
          obtain ⟨rfl, hf, hs⟩ := hq
          refine kblock_exit ?_
          refine kthen_normal ?_
          refine awp_le hf hs ?_
          refine awp_seq ?_
          refine awp_region ?_
          refine awpl_op rfl (opTo_q (d := 19) rfl rfl ev_move) ?_
          refine awpl_op rfl (opTo_q (d := 2) rfl rfl ev_assign) ?_
          refine awpl_nil ?_
          refine kthen_normal ?_
          refine awp_ret ?_
          refine inlK (cs := [.mp 2006]) (fr'' := [(0, .fn (.yield b16) [] []), (2, .ptr 3 0)]) (σ'' := [(2006, .mapo false (menc keyS (cL cS) b18)), (1699999, .sus g0.w.heap.size ds16), (1699998, .lp b16 L16), (1600005, .hold (.ptr 5 0) (T16.getD 5 undef)), (1600007, .hold (.ptr 7 0) (T16.getD 7 undef)), (1600008, .hold (.ptr 8 0) (T16.getD 8 undef)), (1600024, .hold (.fn (.func 61) [] [.ptr 2 0, .ptr 3 0]) (T16.getD 24 undef)), (3, .cells [.l cS (([a1] : List Str))]), (2, .cells [.l TAlias.pc a0]), (1008, .row 9 false 1 (List.map cS (([] : List Str)))), (8, .cells [.hs 1008 0]), (7, .cells [.mp 1006]), (1006, .mapo false (menc keyS (cL cS) b12)), (5, .cells [.i 0, .i 0])]) (.inl rfl) frLe_refl stoLe_refl (.cons (res_tmp rfl) .nil) (.cons rfl (.cons rfl .nil)) rfl (stoLe_cons rfl (stoLe_cons rfl (stoLe_cons rfl (stoLe_cons rfl (stoLe_cons rfl (stoLe_cons rfl (stoLe_cons rfl (stoLe_cons rfl (stoLe_cons rfl (stoLe_cons rfl (stoLe_cons rfl (stoLe_cons rfl (stoLe_cons rfl (stoLe_cons rfl stoLe_nil)))))))))))))) ?_
          refine awpl_op rfl (opTo_q (d := 4) rfl rfl ev_assign) ?_
          refine awpl_nil ?_
          refine kthen_normal ?_
          refine awp_seq ?_
          refine awp_region ?_
          refine awpl_op rfl (opTo_makeMap (k0 := 11) 1011 false rfl rfl rfl) ?_
          refine awpl_op rfl (opTo_alloc (k := 5) 1005 rfl ty_map_string_bool (.inl rfl) rfl rfl rfl) ?_
          refine awpl_op rfl (opTo_store rfl rfl rfl ty_map_string_bool rfl rfl) ?_
          refine awpl_nil ?_
          refine kthen_normal ?_
          refine awp_seq ?_
          refine awp_region ?_
          refine awpl_op rfl (opTo_alloc (k := 6) 6 rfl ty_s_string (.inl rfl) rfl rfl rfl) ?_
          refine awpl_adoptC 3006 (o := 6) (j := 0) 9 1 rfl rfl rfl rfl ?_
          refine awpl_nil ?_
          refine kthen_normal ?_
          refine awp_seq ?_
          refine awp_region ?_
          refine awpl_op rfl (opTo_q (d := 12) rfl rfl (ev_makeFunc rfl rfl)) ?_
          refine awpl_op rfl (opTo_q (d := 7) rfl rfl ev_assign) ?_
          refine awpl_nil ?_
          refine kthen_normal ?_
          refine awp_seq ?_
          refine awp_region ?_
          refine awpl_op rfl (opTo_q (d := 13) rfl rfl ev_move) ?_
          refine awpl_op rfl (opTo_q (d := 14) rfl rfl (ev_load rfl rfl ty_s_string rfl rfl)) ?_
          refine awpl_inl (fn := Try.f62) (args := [.l cS (([a1] : List Str)), .ptr 1005 0, .ptr 6 0]) 1800000 1899999 [(0, .fn (.yield b16) [] []), (4, .mp 2006), (6, .ptr 6 0), (7, .fn (.func 62) [] [.ptr 1005 0, .ptr 6 0])] (wanted_plain rfl) rfl ⟨Try.func62, rfl, by kernel_rfl⟩ rfl rfl (.cons rfl (.cons rfl (.cons rfl (.cons rfl .nil)))) fun T18 ds18 hT18 => ?_
          refine awp_seq ?_
          refine awp_region ?_
          refine awpl_op rfl (opTo_q (d := 6) rfl rfl ev_move) ?_
          refine awpl_op rfl (opTo_q (d := 7) rfl rfl (ev_llen (f := cS) rfl ty_s_string.u)) ?_
          refine awpl_op rfl (opTo_q (d := 8) rfl rfl ev_move) ?_
          refine awpl_nil ?_
          refine kthen_normal ?_
          refine awp_block ?_
          obtain ⟨b24, hl, hr⟩ := bind_some hr
          refine awp_loop (alias_Expand_l3 a1) (fun s23 => [(1, .ptr 1005 0), (2, .ptr 6 0), (6, .l cS (([a1] : List Str))), (7, .i (((([a1] : List Str)).length : Int))), (8, .i s23.1)]) (fun s23 => [(1899999, .sus g0.w.heap.size ds18), (1800000, .hold (.fn (.yield b16) [] []) (T18.getD 0 undef)), (1800004, .hold (.mp 2006) (T18.getD 4 undef)), (1800006, .hold (.ptr 6 0) (T18.getD 6 undef)), (1800007, .hold (.fn (.func 62) [] [.ptr 1005 0, .ptr 6 0]) (T18.getD 7 undef)), (3006, .row 9 false 1 (List.map cS s23.2.1)), (6, .cells [.hs 3006 0]), (1005, .cells [.mp 1011]), (1011, .mapo false (menc keyS cB s23.2.2)), (2006, .mapo false (menc keyS (cL cS) b18)), (1699999, .sus g0.w.heap.size ds16), (1699998, .lp b16 L16), (1600005, .hold (.ptr 5 0) (T16.getD 5 undef)), (1600007, .hold (.ptr 7 0) (T16.getD 7 undef)), (1600008, .hold (.ptr 8 0) (T16.getD 8 undef)), (1600024, .hold (.fn (.func 61) [] [.ptr 2 0, .ptr 3 0]) (T16.getD 24 undef)), (3, .cells [.l cS (([a1] : List Str))]), (2, .cells [.l TAlias.pc a0]), (1008, .row 9 false 1 (List.map cS (([] : List Str)))), (8, .cells [.hs 1008 0]), (7, .cells [.mp 1006]), (1006, .mapo false (menc keyS (cL cS) b12)), (5, .cells [.i 0, .i 0])]) (fun b24 => At (.exit 0) [] [(1899999, .sus g0.w.heap.size ds18), (1800000, .hold (.fn (.yield b16) [] []) (T18.getD 0 undef)), (1800004, .hold (.mp 2006) (T18.getD 4 undef)), (1800006, .hold (.ptr 6 0) (T18.getD 6 undef)), (1800007, .hold (.fn (.func 62) [] [.ptr 1005 0, .ptr 6 0]) (T18.getD 7 undef)), (3006, .row 9 false 1 (List.map cS b24.1)), (6, .cells [.hs 3006 0]), (1005, .cells [.mp 1011]), (1011, .mapo false (menc keyS cB b24.2)), (2006, .mapo false (menc keyS (cL cS) b18)), (1699999, .sus g0.w.heap.size ds16), (1699998, .lp b16 L16), (1600005, .hold (.ptr 5 0) (T16.getD 5 undef)), (1600007, .hold (.ptr 7 0) (T16.getD 7 undef)), (1600008, .hold (.ptr 8 0) (T16.getD 8 undef)), (1600024, .hold (.fn (.func 61) [] [.ptr 2 0, .ptr 3 0]) (T16.getD 24 undef)), (3, .cells [.l cS (([a1] : List Str))]), (2, .cells [.l TAlias.pc a0]), (1008, .row 9 false 1 (List.map cS (([] : List Str)))), (8, .cells [.hs 1008 0]), (7, .cells [.mp 1006]), (1006, .mapo false (menc keyS (cL cS) b12)), (5, .cells [.i 0, .i 0])]) ?_ ((0, ([] : List Str), ([] : List (Str × Bool)))) hl (frLe_cons rfl (frLe_cons rfl (frLe_cons rfl (frLe_cons rfl (frLe_cons rfl frLe_nil))))) (stoLe_cons rfl (stoLe_cons rfl (stoLe_cons rfl (stoLe_cons rfl (stoLe_cons rfl (stoLe_cons rfl (stoLe_cons rfl (stoLe_cons rfl (stoLe_cons rfl (stoLe_cons rfl (stoLe_cons rfl (stoLe_cons rfl (stoLe_cons rfl (stoLe_cons rfl (stoLe_cons rfl (stoLe_cons rfl (stoLe_cons rfl (stoLe_cons rfl (stoLe_cons rfl (stoLe_cons rfl (stoLe_cons rfl (stoLe_cons rfl (stoLe_cons rfl stoLe_nil))))))))))))))))))))))) ?_
          · intro s23 x25 hr
            unfold alias_Expand_l3 at hr
            refine awp_seq ?_
            refine awp_region ?_
            refine awpl_op rfl (opTo_q (d := 9) rfl rfl (ev_lss rfl rfl)) ?_
            refine awpl_nil ?_
            refine kthen_normal ?_
            refine awp_seq ?_
            refine awp_cond rfl (fun c26 => ?_) (fun c26 => ?_)
            · replace hr := cond_t c26 hr
              refine awp_skip ?_
              refine kthen_normal ?_
              obtain ⟨j27, hx, hy⟩ := bind_some hr
              refine awp_join (fun j27 => [(1, .ptr 1005 0), (2, .ptr 6 0), (6, .l cS (([a1] : List Str))), (7, .i (((([a1] : List Str)).length : Int))), (8, .i s23.1)]) (fun j27 => [(1899999, .sus g0.w.heap.size ds18), (1800000, .hold (.fn (.yield b16) [] []) (T18.getD 0 undef)), (1800004, .hold (.mp 2006) (T18.getD 4 undef)), (1800006, .hold (.ptr 6 0) (T18.getD 6 undef)), (1800007, .hold (.fn (.func 62) [] [.ptr 1005 0, .ptr 6 0]) (T18.getD 7 undef)), (3006, .row 9 false 1 (List.map cS j27.1)), (6, .cells [.hs 3006 0]), (1005, .cells [.mp 1011]), (1011, .mapo false (menc keyS cB j27.2)), (2006, .mapo false (menc keyS (cL cS) b18)), (1699999, .sus g0.w.heap.size ds16), (1699998, .lp b16 L16), (1600005, .hold (.ptr 5 0) (T16.getD 5 undef)), (1600007, .hold (.ptr 7 0) (T16.getD 7 undef)), (1600008, .hold (.ptr 8 0) (T16.getD 8 undef)), (1600024, .hold (.fn (.func 61) [] [.ptr 2 0, .ptr 3 0]) (T16.getD 24 undef)), (3, .cells [.l cS (([a1] : List Str))]), (2, .cells [.l TAlias.pc a0]), (1008, .row 9 false 1 (List.map cS (([] : List Str)))), (8, .cells [.hs 1008 0]), (7, .cells [.mp 1006]), (1006, .mapo false (menc keyS (cL cS) b12)), (5, .cells [.i 0, .i 0])]) (fun z => j27 = z) ?_ ?_
              · have hr := hx
                clear hx hy
                refine awp_block ?_
                refine awp_seq ?_
                refine awp_region ?_
                obtain ⟨v28, h29, hr⟩ := bind_some hr
                refine awpl_op rfl (opTo_q (d := 10) rfl rfl (ev_idx (f := cS) rfl rfl ty_s_string ty_string rfl h29)) ?_
                refine awpl_op rfl (opTo_q (d := 11) rfl rfl (ev_load_ep rfl ty_string rfl rfl)) ?_
                refine awpl_op rfl (opTo_q (d := 5) rfl rfl ev_assign) ?_
                refine awpl_nil ?_
                refine kthen_normal ?_
                refine awp_seq ?_
                refine awp_region ?_
                refine awpl_op rfl (opTo_q (d := 12) rfl rfl (ev_load rfl rfl ty_map_string_bool rfl rfl)) ?_
                refine awpl_op rfl (opTo_q (d := 13) rfl rfl ev_move) ?_
                refine awpl_op rfl (opTo_q (d := 14) rfl rfl (ev_lookup (KK := keyS) (F := cB) (es := s23.2.2) (k := v28) (z := false) rfl rfl rfl ty_map_string_bool.u ty_string.u ty_bool rfl)) ?_
                refine awpl_op rfl (opTo_q (d := 15) rfl rfl (ev_not rfl)) ?_
                refine awpl_nil ?_
                refine kthen_normal ?_
                refine awp_cond rfl (fun c30 => ?_) (fun c30 => ?_)
                · replace hr := cond_t c30 hr
                  refine awp_seq ?_
                  refine awp_region ?_
                  refine awpl_op rfl (opTo_q (d := 16) rfl rfl (ev_load rfl rfl ty_map_string_bool rfl rfl)) ?_
                  refine awpl_op rfl (opTo_q (d := 17) rfl rfl ev_move) ?_
                  refine awpl_op rfl (opTo_mapUpdate (KK := keyS) (F := cB) (es := s23.2.2) (k := v28) (v := true) rfl rfl rfl rfl rfl ty_map_string_bool.u ty_string.u) ?_
                  refine awpl_nil ?_
                  refine kthen_normal ?_
                  refine awp_region ?_
                  refine awpl_op rfl (opTo_q (d := 18) rfl rfl (ev_load rfl rfl ty_s_string rfl rfl)) ?_
                  refine awpl_op rfl (opTo_q (d := 19) rfl rfl ev_move) ?_
                  refine awpl_op rfl (opTo_g (d := 20) rfl rfl (opG_lit (F := cS) (l := ([v28] : List Str)) ty_s_string ty_string rfl (fun _ => rfl) rfl rfl)) ?_
                  obtain ⟨v31, h32, hr⟩ := bind_some hr
                  refine awpl_op rfl (opTo_append (k := 21) (F := cS) (l := s23.2.1) (xs := (([v28] : List Str))) (lim := 8796093022208) rfl rfl rfl rfl ty_s_string ty_string rfl rfl (fun _ => rfl) rfl h32) ?_
                  refine awpl_op rfl (opTo_store rfl rfl rfl ty_s_string rfl rfl) ?_
                  refine awpl_nil ?_
                  refine kblock_normal ?_
                  cases hr
                  exact joinK_normal _ rfl (frLe_cons rfl (frLe_cons rfl (frLe_cons rfl (frLe_cons rfl (frLe_cons rfl frLe_nil))))) (stoLe_cons rfl (stoLe_cons rfl (stoLe_cons rfl (stoLe_cons rfl (stoLe_cons rfl (stoLe_cons rfl (stoLe_cons rfl (stoLe_cons rfl (stoLe_cons rfl (stoLe_cons rfl (stoLe_cons rfl (stoLe_cons rfl (stoLe_cons rfl (stoLe_cons rfl (stoLe_cons rfl (stoLe_cons rfl (stoLe_cons rfl (stoLe_cons rfl (stoLe_cons rfl (stoLe_cons rfl (stoLe_cons rfl (stoLe_cons rfl (stoLe_cons rfl stoLe_nil)))))))))))))))))))))))
                · replace hr := cond_f c30 hr
                  refine awp_skip ?_
                  refine kblock_normal ?_
                  cases hr
                  exact joinK_normal _ rfl (frLe_cons rfl (frLe_cons rfl (frLe_cons rfl (frLe_cons rfl (frLe_cons rfl frLe_nil))))) (stoLe_cons rfl (stoLe_cons rfl (stoLe_cons rfl (stoLe_cons rfl (stoLe_cons rfl (stoLe_cons rfl (stoLe_cons rfl (stoLe_cons rfl (stoLe_cons rfl (stoLe_cons rfl (stoLe_cons rfl (stoLe_cons rfl (stoLe_cons rfl (stoLe_cons rfl (stoLe_cons rfl (stoLe_cons rfl (stoLe_cons rfl (stoLe_cons rfl (stoLe_cons rfl (stoLe_cons rfl (stoLe_cons rfl (stoLe_cons rfl (stoLe_cons rfl stoLe_nil)))))))))))))))))))))))
              · rintro _ rfl
                have hr := hy
                clear hx hy
                refine awp_region ?_
                refine awpl_op rfl (opTo_q (d := 22) rfl rfl (ev_add rfl rfl)) ?_
                refine awpl_op rfl (opTo_q (d := 8) rfl rfl ev_move) ?_
                refine awpl_nil ?_
                cases hr
                exact ⟨rfl, (frLe_cons rfl (frLe_cons rfl (frLe_cons rfl (frLe_cons rfl (frLe_cons rfl frLe_nil))))), (stoLe_cons rfl (stoLe_cons rfl (stoLe_cons rfl (stoLe_cons rfl (stoLe_cons rfl (stoLe_cons rfl (stoLe_cons rfl (stoLe_cons rfl (stoLe_cons rfl (stoLe_cons rfl (stoLe_cons rfl (stoLe_cons rfl (stoLe_cons rfl (stoLe_cons rfl (stoLe_cons rfl (stoLe_cons rfl (stoLe_cons rfl (stoLe_cons rfl (stoLe_cons rfl (stoLe_cons rfl (stoLe_cons rfl (stoLe_cons rfl (stoLe_cons rfl stoLe_nil)))))))))))))))))))))))⟩
            · replace hr := cond_f c26 hr
              refine awp_exit ?_
              refine kthen_exit ?_
              cases hr
              exact ⟨by simp, rfl, frLe_nil, (stoLe_cons rfl (stoLe_cons rfl (stoLe_cons rfl (stoLe_cons rfl (stoLe_cons rfl (stoLe_cons rfl (stoLe_cons rfl (stoLe_cons rfl (stoLe_cons rfl (stoLe_cons rfl (stoLe_cons rfl (stoLe_cons rfl (stoLe_cons rfl (stoLe_cons rfl (stoLe_cons rfl (stoLe_cons rfl (stoLe_cons rfl (stoLe_cons rfl (stoLe_cons rfl (stoLe_cons rfl (stoLe_cons rfl (stoLe_cons rfl (stoLe_cons rfl stoLe_nil)))))))))))))))))))))))⟩
          · intro e fr2 st2 hq
            obtain ⟨rfl, hf, hs⟩ := hq
            refine kblock_exit ?_
            refine inlK (cs := []) (fr'' := [(0, .fn (.yield b16) [] []), (4, .mp 2006), (6, .ptr 6 0), (7, .fn (.func 62) [] [.ptr 1005 0, .ptr 6 0])]) (σ'' := [(3006, .row 9 false 1 (List.map cS b24.1)), (6, .cells [.hs 3006 0]), (1005, .cells [.mp 1011]), (1011, .mapo false (menc keyS cB b24.2)), (2006, .mapo false (menc keyS (cL cS) b18)), (1699999, .sus g0.w.heap.size ds16), (1699998, .lp b16 L16), (1600005, .hold (.ptr 5 0) (T16.getD 5 undef)), (1600007, .hold (.ptr 7 0) (T16.getD 7 undef)), (1600008, .hold (.ptr 8 0) (T16.getD 8 undef)), (1600024, .hold (.fn (.func 61) [] [.ptr 2 0, .ptr 3 0]) (T16.getD 24 undef)), (3, .cells [.l cS (([a1] : List Str))]), (2, .cells [.l TAlias.pc a0]), (1008, .row 9 false 1 (List.map cS (([] : List Str)))), (8, .cells [.hs 1008 0]), (7, .cells [.mp 1006]), (1006, .mapo false (menc keyS (cL cS) b12)), (5, .cells [.i 0, .i 0])]) (.inr rfl) hf hs .nil (.cons rfl (.cons rfl (.cons rfl (.cons rfl .nil)))) rfl (stoLe_cons rfl (stoLe_cons rfl (stoLe_cons rfl (stoLe_cons rfl (stoLe_cons rfl (stoLe_cons rfl (stoLe_cons rfl (stoLe_cons rfl (stoLe_cons rfl (stoLe_cons rfl (stoLe_cons rfl (stoLe_cons rfl (stoLe_cons rfl (stoLe_cons rfl (stoLe_cons rfl (stoLe_cons rfl (stoLe_cons rfl (stoLe_cons rfl stoLe_nil)))))))))))))))))) ?_
            refine awpl_nil ?_
            refine kthen_normal ?_
            refine awp_block ?_
            obtain ⟨b34, hl, hr⟩ := bind_some hr
            refine awp_loop (alias_Expand_l4 b12 b18) (fun s33 => [(0, .fn (.yield b16) [] []), (4, .mp 2006), (6, .ptr 6 0), (7, .fn (.func 62) [] [.ptr 1005 0, .ptr 6 0])]) (fun s33 => [(3006, .row 9 false 1 (List.map cS s33.1)), (6, .cells [.hs 3006 0]), (1005, .cells [.mp 1011]), (1011, .mapo false (menc keyS cB s33.2.1)), (2006, .mapo false (menc keyS (cL cS) b18)), (1699999, .sus g0.w.heap.size ds16), (1699998, .lp b16 L16), (1600005, .hold (.ptr 5 0) (T16.getD 5 undef)), (1600007, .hold (.ptr 7 0) (T16.getD 7 undef)), (1600008, .hold (.ptr 8 0) (T16.getD 8 undef)), (1600024, .hold (.fn (.func 61) [] [.ptr 2 0, .ptr 3 0]) (T16.getD 24 undef)), (3, .cells [.l cS (([a1] : List Str))]), (2, .cells [.l TAlias.pc a0]), (1008, .row 9 false 1 (List.map cS s33.2.2)), (8, .cells [.hs 1008 0]), (7, .cells [.mp 1006]), (1006, .mapo false (menc keyS (cL cS) b12)), (5, .cells [.i 0, .i 0])]) (fun b34 => At (.exit 0) [] [(1699999, .sus g0.w.heap.size ds16), (1699998, .lp b16 L16), (1600005, .hold (.ptr 5 0) (T16.getD 5 undef)), (1600007, .hold (.ptr 7 0) (T16.getD 7 undef)), (1600008, .hold (.ptr 8 0) (T16.getD 8 undef)), (1600024, .hold (.fn (.func 61) [] [.ptr 2 0, .ptr 3 0]) (T16.getD 24 undef)), (3, .cells [.l cS (([a1] : List Str))]), (2, .cells [.l TAlias.pc a0]), (1008, .row 9 false 1 (List.map cS b34)), (8, .cells [.hs 1008 0]), (7, .cells [.mp 1006]), (1006, .mapo false (menc keyS (cL cS) b12)), (5, .cells [.i 0, .i 0])]) ?_ ((b24.1, b24.2, ([] : List Str))) hl (frLe_cons rfl (frLe_cons rfl (frLe_cons rfl (frLe_cons rfl frLe_nil)))) (stoLe_cons rfl (stoLe_cons rfl (stoLe_cons rfl (stoLe_cons rfl (stoLe_cons rfl (stoLe_cons rfl (stoLe_cons rfl (stoLe_cons rfl (stoLe_cons rfl (stoLe_cons rfl (stoLe_cons rfl (stoLe_cons rfl (stoLe_cons rfl (stoLe_cons rfl (stoLe_cons rfl (stoLe_cons rfl (stoLe_cons rfl (stoLe_cons rfl stoLe_nil)))))))))))))))))) ?_
            · intro s33 x35 hr
              unfold alias_Expand_l4 at hr
              refine awp_seq ?_
              refine awp_seq ?_
              refine awp_region ?_
              refine awpl_op rfl (opTo_q (d := 16) rfl rfl (ev_load rfl rfl ty_s_string rfl rfl)) ?_
              refine awpl_op rfl (opTo_q (d := 17) rfl rfl (ev_hlen (F := cS) rfl rfl ty_s_string.u)) ?_
              refine awpl_op rfl (opTo_q (d := 18) rfl rfl (ev_gtr rfl rfl)) ?_
              refine awpl_nil ?_
              refine kthen_normal ?_
              refine awp_cond rfl (fun c36 => ?_) (fun c36 => ?_)
              · replace hr := cond_t c36 hr
                refine awp_skip ?_
                refine kthen_normal ?_
                refine awp_block ?_
                refine awp_seq ?_
                refine awp_region ?_
                refine awpl_op rfl (opTo_q (d := 19) rfl rfl (ev_load rfl rfl ty_s_string rfl rfl)) ?_
                refine awpl_pub (d := 19) (F := cS) (l := s33.1) rfl rfl ?_
                obtain ⟨v37, h38, hr⟩ := bind_some hr
                refine awpl_op rfl (opTo_q (d := 20) rfl rfl (ev_idx (f := cS) rfl rfl ty_s_string ty_string rfl h38)) ?_
                refine awpl_op rfl (opTo_q (d := 21) rfl rfl (ev_load_ep rfl ty_string rfl rfl)) ?_
                refine awpl_op rfl (opTo_q (d := 8) rfl rfl ev_assign) ?_
                refine awpl_nil ?_
                refine kthen_normal ?_
                refine awp_seq ?_
                refine awp_region ?_
                refine awpl_op rfl (opTo_q (d := 22) rfl rfl (ev_load rfl rfl ty_s_string rfl rfl)) ?_
                obtain ⟨v39, h40, hr⟩ := bind_some hr
                refine awpl_op rfl (opTo_hcutL (k := 23) (F := cS) (l := s33.1) rfl rfl rfl rfl ty_s_string ty_string h40) ?_
                refine awpl_op rfl (opTo_store rfl rfl rfl ty_s_string rfl rfl) ?_
                refine awpl_nil ?_
                refine kthen_normal ?_
                refine awp_seq ?_
                refine awp_seq ?_
                refine awp_region ?_
                refine awpl_op rfl (opTo_q (d := 24) rfl rfl ev_move) ?_
                refine awpl_op rfl (opTo_q (d := 25) rfl rfl ev_move) ?_
                refine awpl_yieldf (ps := [25]) (args := [.s v37]) 1600000 2500000 1699998 2599999 [(5, .ptr 5 0), (7, .ptr 7 0), (8, .ptr 8 0), (24, .fn (.func 61) [] [.ptr 2 0, .ptr 3 0])] [(0, .fn (.yield b16) [] []), (4, .mp 2006), (6, .ptr 6 0), (7, .fn (.func 62) [] [.ptr 1005 0, .ptr 6 0]), (8, .s v37)] (wanted_plain rfl) rfl rfl hLs16 hLp16 hLt16 hLq16 hLa16 hLb16 hT16 rfl rfl rfl rfl (.cons rfl (.cons rfl (.cons rfl (.cons rfl (.cons rfl .nil))))) (.cons rfl (.cons rfl (.cons rfl (.cons rfl .nil)))) fun T25 ds25 hT25 => ?_
                refine awp_region ?_
                refine awpl_op rfl (opTo_q (d := 9) rfl rfl ev_assign) ?_
                refine awpl_nil ?_
                refine asgK frLe_refl stoLe_refl rfl ?_
                refine awp_block ?_
                refine awp_seq ?_
                refine awp_region ?_
                refine awpl_op rfl (opTo_q (d := 26) rfl rfl (ev_load rfl rfl ty_map_string_s_string rfl rfl)) ?_
                refine awpl_op rfl (opTo_q (d := 27) rfl rfl ev_move) ?_
                refine opt_split (mget b12 v37) (fun v41 c42 => ?_) (fun c42 => ?_)
                · replace hr := opt_some c42 hr
                  refine awpl_op rfl (opTo_q (d := 28) rfl rfl (ev_lookup_some (KK := keyS) (F := (cL cS)) (es := b12) (k := v37) (z := (([] : List Str))) rfl rfl rfl ty_map_string_s_string.u ty_string.u ty_s_string rfl c42)) ?_
                  obtain ⟨v43, h44, hr⟩ := bind_some hr
                  refine awpl_op rfl (opTo_q (d := 29) rfl rfl (ev_isnil_no (F := cS) (l := v41) rfl rfl ty_s_string h44)) ?_
                  refine awpl_nil ?_
                  refine kthen_normal ?_
                  refine awp_cond (t := false) rfl (fun h => nomatch h) (fun _ => ?_)
                  refine awp_skip ?_
                  refine kblock_normal ?_
                  refine rndK (fr'' := [(0, .fn (.yield b16) [] []), (4, .mp 2006), (6, .ptr 6 0), (7, .fn (.func 62) [] [.ptr 1005 0, .ptr 6 0]), (8, .s v37)]) (σ'' := [(3006, .row 9 false 1 (List.map cS v39)), (6, .cells [.hs 3006 0]), (1005, .cells [.mp 1011]), (1011, .mapo false (menc keyS cB s33.2.1)), (2006, .mapo false (menc keyS (cL cS) b18)), (1699999, .sus g0.w.heap.size ds16), (1699998, .lp b16 L16), (1600005, .hold (.ptr 5 0) (T16.getD 5 undef)), (1600007, .hold (.ptr 7 0) (T16.getD 7 undef)), (1600008, .hold (.ptr 8 0) (T16.getD 8 undef)), (1600024, .hold (.fn (.func 61) [] [.ptr 2 0, .ptr 3 0]) (T16.getD 24 undef)), (3, .cells [.l cS (([a1] : List Str))]), (2, .cells [.l TAlias.pc a0]), (1008, .row 9 false 1 (List.map cS s33.2.2)), (8, .cells [.hs 1008 0]), (7, .cells [.mp 1006]), (1006, .mapo false (menc keyS (cL cS) b12)), (5, .cells [.i 0, .i 0])]) .off stoLe_refl rfl (.cons rfl (.cons rfl (.cons rfl (.cons rfl (.cons rfl .nil))))) rfl (stoLe_cons rfl (stoLe_cons rfl (stoLe_cons rfl (stoLe_cons rfl (stoLe_cons rfl (stoLe_cons rfl (stoLe_cons rfl (stoLe_cons rfl (stoLe_cons rfl (stoLe_cons rfl (stoLe_cons rfl (stoLe_cons rfl (stoLe_cons rfl (stoLe_cons rfl (stoLe_cons rfl (stoLe_cons rfl (stoLe_cons rfl (stoLe_cons rfl stoLe_nil)))))))))))))))))) ?_
                  refine awpl_op rfl (opTo_q (d := 27) rfl rfl (ev_not rfl)) ?_
                  refine awpl_nil ?_
                  refine kthen_normal ?_
                  refine awp_cond (t := false) rfl (fun h => nomatch h) (fun _ => ?_)
                  refine awp_skip ?_
                  refine kthen_normal ?_
                  refine awp_region ?_
                  refine awpl_op rfl (opTo_q (d := 28) rfl rfl ev_move) ?_
                  refine awpl_op rfl (opTo_q (d := 29) rfl rfl ev_move) ?_
                  refine awpl_op rfl (opTo_q (d := 30) rfl rfl ev_move) ?_
                  refine awpl_op rfl (opTo_q (d := 31) rfl rfl (ev_lookup (KK := keyS) (F := (cL cS)) (es := b18) (k := v37) (z := (([] : List Str))) rfl rfl rfl ty_map_string_s_string.u ty_string.u ty_s_string rfl)) ?_
                  refine awpl_inl (fn := Try.f62) (args := [.l cS (((mget b18 v37).getD (([] : List Str)))), .ptr 1005 0, .ptr 6 0]) 2600000 2699999 [(0, .fn (.yield b16) [] []), (4, .mp 2006), (6, .ptr 6 0), (7, .fn (.func 62) [] [.ptr 1005 0, .ptr 6 0])] (wanted_plain rfl) rfl ⟨Try.func62, rfl, by kernel_rfl⟩ rfl rfl (.cons rfl (.cons rfl (.cons rfl (.cons rfl .nil)))) fun T26 ds26 hT26 => ?_
                  refine awp_seq ?_
                  refine awp_region ?_
                  refine awpl_op rfl (opTo_q (d := 6) rfl rfl ev_move) ?_
                  refine awpl_op rfl (opTo_q (d := 7) rfl rfl (ev_llen (f := cS) rfl ty_s_string.u)) ?_
                  refine awpl_op rfl (opTo_q (d := 8) rfl rfl ev_move) ?_
                  refine awpl_nil ?_
                  refine kthen_normal ?_
                  refine awp_block ?_
                  obtain ⟨b46, hl, hr⟩ := bind_some hr
                  refine awp_loop (alias_Expand_l5 b18 v37) (fun s45 => [(1, .ptr 1005 0), (2, .ptr 6 0), (6, .l cS (((mget b18 v37).getD (([] : List Str))))), (7, .i (((((mget b18 v37).getD (([] : List Str)))).length : Int))), (8, .i s45.1)]) (fun s45 => [(2699999, .sus g0.w.heap.size ds26), (2600000, .hold (.fn (.yield b16) [] []) (T26.getD 0 undef)), (2600004, .hold (.mp 2006) (T26.getD 4 undef)), (2600006, .hold (.ptr 6 0) (T26.getD 6 undef)), (2600007, .hold (.fn (.func 62) [] [.ptr 1005 0, .ptr 6 0]) (T26.getD 7 undef)), (3006, .row 9 false 1 (List.map cS s45.2.1)), (6, .cells [.hs 3006 0]), (1005, .cells [.mp 1011]), (1011, .mapo false (menc keyS cB s45.2.2)), (2006, .mapo false (menc keyS (cL cS) b18)), (1699999, .sus g0.w.heap.size ds16), (1699998, .lp b16 L16), (1600005, .hold (.ptr 5 0) (T16.getD 5 undef)), (1600007, .hold (.ptr 7 0) (T16.getD 7 undef)), (1600008, .hold (.ptr 8 0) (T16.getD 8 undef)), (1600024, .hold (.fn (.func 61) [] [.ptr 2 0, .ptr 3 0]) (T16.getD 24 undef)), (3, .cells [.l cS (([a1] : List Str))]), (2, .cells [.l TAlias.pc a0]), (1008, .row 9 false 1 (List.map cS s33.2.2)), (8, .cells [.hs 1008 0]), (7, .cells [.mp 1006]), (1006, .mapo false (menc keyS (cL cS) b12)), (5, .cells [.i 0, .i 0])]) (fun b46 => At (.exit 0) [] [(2699999, .sus g0.w.heap.size ds26), (2600000, .hold (.fn (.yield b16) [] []) (T26.getD 0 undef)), (2600004, .hold (.mp 2006) (T26.getD 4 undef)), (2600006, .hold (.ptr 6 0) (T26.getD 6 undef)), (2600007, .hold (.fn (.func 62) [] [.ptr 1005 0, .ptr 6 0]) (T26.getD 7 undef)), (3006, .row 9 false 1 (List.map cS b46.1)), (6, .cells [.hs 3006 0]), (1005, .cells [.mp 1011]), (1011, .mapo false (menc keyS cB b46.2)), (2006, .mapo false (menc keyS (cL cS) b18)), (1699999, .sus g0.w.heap.size ds16), (1699998, .lp b16 L16), (1600005, .hold (.ptr 5 0) (T16.getD 5 undef)), (1600007, .hold (.ptr 7 0) (T16.getD 7 undef)), (1600008, .hold (.ptr 8 0) (T16.getD 8 undef)), (1600024, .hold (.fn (.func 61) [] [.ptr 2 0, .ptr 3 0]) (T16.getD 24 undef)), (3, .cells [.l cS (([a1] : List Str))]), (2, .cells [.l TAlias.pc a0]), (1008, .row 9 false 1 (List.map cS s33.2.2)), (8, .cells [.hs 1008 0]), (7, .cells [.mp 1006]), (1006, .mapo false (menc keyS (cL cS) b12)), (5, .cells [.i 0, .i 0])]) ?_ ((0, v39, s33.2.1)) hl (frLe_cons rfl (frLe_cons rfl (frLe_cons rfl (frLe_cons rfl (frLe_cons rfl frLe_nil))))) (stoLe_cons rfl (stoLe_cons rfl (stoLe_cons rfl (stoLe_cons rfl (stoLe_cons rfl (stoLe_cons rfl (stoLe_cons rfl (stoLe_cons rfl (stoLe_cons rfl (stoLe_cons rfl (stoLe_cons rfl (stoLe_cons rfl (stoLe_cons rfl (stoLe_cons rfl (stoLe_cons rfl (stoLe_cons rfl (stoLe_cons rfl (stoLe_cons rfl (stoLe_cons rfl (stoLe_cons rfl (stoLe_cons rfl (stoLe_cons rfl (stoLe_cons rfl stoLe_nil))))))))))))))))))))))) ?_
                  · intro s45 x47 hr
                    unfold alias_Expand_l5 at hr
                    refine awp_seq ?_
                    refine awp_region ?_
                    refine awpl_op rfl (opTo_q (d := 9) rfl rfl (ev_lss rfl rfl)) ?_
                    refine awpl_nil ?_
                    refine kthen_normal ?_
                    refine awp_seq ?_
                    refine awp_cond rfl (fun c48 => ?_) (fun c48 => ?_)
                    · replace hr := cond_t c48 hr
                      refine awp_skip ?_
                      refine kthen_normal ?_
                      obtain ⟨j49, hx, hy⟩ := bind_some hr
                      refine awp_join (fun j49 => [(1, .ptr 1005 0), (2, .ptr 6 0), (6, .l cS (((mget b18 v37).getD (([] : List Str))))), (7, .i (((((mget b18 v37).getD (([] : List Str)))).length : Int))), (8, .i s45.1)]) (fun j49 => [(2699999, .sus g0.w.heap.size ds26), (2600000, .hold (.fn (.yield b16) [] []) (T26.getD 0 undef)), (2600004, .hold (.mp 2006) (T26.getD 4 undef)), (2600006, .hold (.ptr 6 0) (T26.getD 6 undef)), (2600007, .hold (.fn (.func 62) [] [.ptr 1005 0, .ptr 6 0]) (T26.getD 7 undef)), (3006, .row 9 false 1 (List.map cS j49.1)), (6, .cells [.hs 3006 0]), (1005, .cells [.mp 1011]), (1011, .mapo false (menc keyS cB j49.2)), (2006, .mapo false (menc keyS (cL cS) b18)), (1699999, .sus g0.w.heap.size ds16), (1699998, .lp b16 L16), (1600005, .hold (.ptr 5 0) (T16.getD 5 undef)), (1600007, .hold (.ptr 7 0) (T16.getD 7 undef)), (1600008, .hold (.ptr 8 0) (T16.getD 8 undef)), (1600024, .hold (.fn (.func 61) [] [.ptr 2 0, .ptr 3 0]) (T16.getD 24 undef)), (3, .cells [.l cS (([a1] : List Str))]), (2, .cells [.l TAlias.pc a0]), (1008, .row 9 false 1 (List.map cS s33.2.2)), (8, .cells [.hs 1008 0]), (7, .cells [.mp 1006]), (1006, .mapo false (menc keyS (cL cS) b12)), (5, .cells [.i 0, .i 0])]) (fun z => j49 = z) ?_ ?_
                      · have hr := hx
                        clear hx hy
                        refine awp_block ?_
                        refine awp_seq ?_
                        refine awp_region ?_
                        obtain ⟨v50, h51, hr⟩ := bind_some hr
                        refine awpl_op rfl (opTo_q (d := 10) rfl rfl (ev_idx (f := cS) rfl rfl ty_s_string ty_string rfl h51)) ?_
                        refine awpl_op rfl (opTo_q (d := 11) rfl rfl (ev_load_ep rfl ty_string rfl rfl)) ?_
                        refine awpl_op rfl (opTo_q (d := 5) rfl rfl ev_assign) ?_
                        refine awpl_nil ?_
                        refine kthen_normal ?_
                        refine awp_seq ?_
                        refine awp_region ?_
                        refine awpl_op rfl (opTo_q (d := 12) rfl rfl (ev_load rfl rfl ty_map_string_bool rfl rfl)) ?_
                        refine awpl_op rfl (opTo_q (d := 13) rfl rfl ev_move) ?_
                        refine awpl_op rfl (opTo_q (d := 14) rfl rfl (ev_lookup (KK := keyS) (F := cB) (es := s45.2.2) (k := v50) (z := false) rfl rfl rfl ty_map_string_bool.u ty_string.u ty_bool rfl)) ?_
                        refine awpl_op rfl (opTo_q (d := 15) rfl rfl (ev_not rfl)) ?_
                        refine awpl_nil ?_
                        refine kthen_normal ?_
                        refine awp_cond rfl (fun c52 => ?_) (fun c52 => ?_)
                        · replace hr := cond_t c52 hr
                          refine awp_seq ?_
                          refine awp_region ?_
                          refine awpl_op rfl (opTo_q (d := 16) rfl rfl (ev_load rfl rfl ty_map_string_bool rfl rfl)) ?_
                          refine awpl_op rfl (opTo_q (d := 17) rfl rfl ev_move) ?_
                          refine awpl_op rfl (opTo_mapUpdate (KK := keyS) (F := cB) (es := s45.2.2) (k := v50) (v := true) rfl rfl rfl rfl rfl ty_map_string_bool.u ty_string.u) ?_
                          refine awpl_nil ?_
                          refine kthen_normal ?_
                          refine awp_region ?_
                          refine awpl_op rfl (opTo_q (d := 18) rfl rfl (ev_load rfl rfl ty_s_string rfl rfl)) ?_
                          refine awpl_op rfl (opTo_q (d := 19) rfl rfl ev_move) ?_
                          refine awpl_op rfl (opTo_g (d := 20) rfl rfl (opG_lit (F := cS) (l := ([v50] : List Str)) ty_s_string ty_string rfl (fun _ => rfl) rfl rfl)) ?_
                          obtain ⟨v53, h54, hr⟩ := bind_some hr
                          refine awpl_op rfl (opTo_append (k := 21) (F := cS) (l := s45.2.1) (xs := (([v50] : List Str))) (lim := 8796093022208) rfl rfl rfl rfl ty_s_string ty_string rfl rfl (fun _ => rfl) rfl h54) ?_
                          refine awpl_op rfl (opTo_store rfl rfl rfl ty_s_string rfl rfl) ?_
                          refine awpl_nil ?_
                          refine kblock_normal ?_
                          cases hr
                          exact joinK_normal _ rfl (frLe_cons rfl (frLe_cons rfl (frLe_cons rfl (frLe_cons rfl (frLe_cons rfl frLe_nil))))) (stoLe_cons rfl (stoLe_cons rfl (stoLe_cons rfl (stoLe_cons rfl (stoLe_cons rfl (stoLe_cons rfl (stoLe_cons rfl (stoLe_cons rfl (stoLe_cons rfl (stoLe_cons rfl (stoLe_cons rfl (stoLe_cons rfl (stoLe_cons rfl (stoLe_cons rfl (stoLe_cons rfl (stoLe_cons rfl (stoLe_cons rfl (stoLe_cons rfl (stoLe_cons rfl (stoLe_cons rfl (stoLe_cons rfl (stoLe_cons rfl (stoLe_cons rfl stoLe_nil)))))))))))))))))))))))
                        · replace hr := cond_f c52 hr
                          refine awp_skip ?_
                          refine kblock_normal ?_
                          cases hr
                          exact joinK_normal _ rfl (frLe_cons rfl (frLe_cons rfl (frLe_cons rfl (frLe_cons rfl (frLe_cons rfl frLe_nil))))) (stoLe_cons rfl (stoLe_cons rfl (stoLe_cons rfl (stoLe_cons rfl (stoLe_cons rfl (stoLe_cons rfl (stoLe_cons rfl (stoLe_cons rfl (stoLe_cons rfl (stoLe_cons rfl (stoLe_cons rfl (stoLe_cons rfl (stoLe_cons rfl (stoLe_cons rfl (stoLe_cons rfl (stoLe_cons rfl (stoLe_cons rfl (stoLe_cons rfl (stoLe_cons rfl (stoLe_cons rfl (stoLe_cons rfl (stoLe_cons rfl (stoLe_cons rfl stoLe_nil)))))))))))))))))))))))
                      · rintro _ rfl
                        have hr := hy
                        clear hx hy
                        refine awp_region ?_
                        refine awpl_op rfl (opTo_q (d := 22) rfl rfl (ev_add rfl rfl)) ?_
                        refine awpl_op rfl (opTo_q (d := 8) rfl rfl ev_move) ?_
                        refine awpl_nil ?_
                        cases hr
                        exact ⟨rfl, (frLe_cons rfl (frLe_cons rfl (frLe_cons rfl (frLe_cons rfl (frLe_cons rfl frLe_nil))))), (stoLe_cons rfl (stoLe_cons rfl (stoLe_cons rfl (stoLe_cons rfl (stoLe_cons rfl (stoLe_cons rfl (stoLe_cons rfl (stoLe_cons rfl (stoLe_cons rfl (stoLe_cons rfl (stoLe_cons rfl (stoLe_cons rfl (stoLe_cons rfl (stoLe_cons rfl (stoLe_cons rfl (stoLe_cons rfl (stoLe_cons rfl (stoLe_cons rfl (stoLe_cons rfl (stoLe_cons rfl (stoLe_cons rfl (stoLe_cons rfl (stoLe_cons rfl stoLe_nil)))))))))))))))))))))))⟩
                    · replace hr := cond_f c48 hr
                      refine awp_exit ?_
                      refine kthen_exit ?_
                      cases hr
                      exact ⟨by simp, rfl, frLe_nil, (stoLe_cons rfl (stoLe_cons rfl (stoLe_cons rfl (stoLe_cons rfl (stoLe_cons rfl (stoLe_cons rfl (stoLe_cons rfl (stoLe_cons rfl (stoLe_cons rfl (stoLe_cons rfl (stoLe_cons rfl (stoLe_cons rfl (stoLe_cons rfl (stoLe_cons rfl (stoLe_cons rfl (stoLe_cons rfl (stoLe_cons rfl (stoLe_cons rfl (stoLe_cons rfl (stoLe_cons rfl (stoLe_cons rfl (stoLe_cons rfl (stoLe_cons rfl stoLe_nil)))))))))))))))))))))))⟩
                  · intro e fr2 st2 hq
                    obtain ⟨rfl, hf, hs⟩ := hq
                    refine kblock_exit ?_
                    refine inlK (cs := []) (fr'' := [(0, .fn (.yield b16) [] []), (4, .mp 2006), (6, .ptr 6 0), (7, .fn (.func 62) [] [.ptr 1005 0, .ptr 6 0])]) (σ'' := [(3006, .row 9 false 1 (List.map cS b46.1)), (6, .cells [.hs 3006 0]), (1005, .cells [.mp 1011]), (1011, .mapo false (menc keyS cB b46.2)), (2006, .mapo false (menc keyS (cL cS) b18)), (1699999, .sus g0.w.heap.size ds16), (1699998, .lp b16 L16), (1600005, .hold (.ptr 5 0) (T16.getD 5 undef)), (1600007, .hold (.ptr 7 0) (T16.getD 7 undef)), (1600008, .hold (.ptr 8 0) (T16.getD 8 undef)), (1600024, .hold (.fn (.func 61) [] [.ptr 2 0, .ptr 3 0]) (T16.getD 24 undef)), (3, .cells [.l cS (([a1] : List Str))]), (2, .cells [.l TAlias.pc a0]), (1008, .row 9 false 1 (List.map cS s33.2.2)), (8, .cells [.hs 1008 0]), (7, .cells [.mp 1006]), (1006, .mapo false (menc keyS (cL cS) b12)), (5, .cells [.i 0, .i 0])]) (.inr rfl) hf hs .nil (.cons rfl (.cons rfl (.cons rfl (.cons rfl .nil)))) rfl (stoLe_cons rfl (stoLe_cons rfl (stoLe_cons rfl (stoLe_cons rfl (stoLe_cons rfl (stoLe_cons rfl (stoLe_cons rfl (stoLe_cons rfl (stoLe_cons rfl (stoLe_cons rfl (stoLe_cons rfl (stoLe_cons rfl (stoLe_cons rfl (stoLe_cons rfl (stoLe_cons rfl (stoLe_cons rfl (stoLe_cons rfl (stoLe_cons rfl stoLe_nil)))))))))))))))))) ?_
                    refine awpl_nil ?_
                    refine kblock_normal ?_
                    cases hr
                    exact ⟨rfl, (frLe_cons rfl (frLe_cons rfl (frLe_cons rfl (frLe_cons rfl frLe_nil)))), (stoLe_cons rfl (stoLe_cons rfl (stoLe_cons rfl (stoLe_cons rfl (stoLe_cons rfl (stoLe_cons rfl (stoLe_cons rfl (stoLe_cons rfl (stoLe_cons rfl (stoLe_cons rfl (stoLe_cons rfl (stoLe_cons rfl (stoLe_cons rfl (stoLe_cons rfl (stoLe_cons rfl (stoLe_cons rfl (stoLe_cons rfl (stoLe_cons rfl stoLe_nil))))))))))))))))))⟩
                · replace hr := opt_none c42 hr
                  refine awpl_op rfl (opTo_q (d := 28) rfl rfl (ev_lookup_none (KK := keyS) (F := (cL cS)) (es := b12) (k := v37) rfl rfl rfl ty_map_string_s_string.u ty_string.u ty_s_string c42)) ?_
                  refine awpl_op rfl (opTo_q (d := 29) rfl rfl (ev_isnil rfl rfl ty_s_string)) ?_
                  refine awpl_nil ?_
                  refine kthen_normal ?_
                  refine awp_cond (t := true) rfl (fun _ => ?_) (fun h => nomatch h)
                  refine awp_region ?_
                  refine awpl_op rfl (opTo_q (d := 30) rfl rfl (ev_load rfl rfl ty_s_string rfl rfl)) ?_
                  refine awpl_op rfl (opTo_q (d := 31) rfl rfl ev_move) ?_
                  refine awpl_op rfl (opTo_g (d := 32) rfl rfl (opG_lit (F := cS) (l := ([v37] : List Str)) ty_s_string ty_string rfl (fun _ => rfl) rfl rfl)) ?_
                  obtain ⟨v55, h56, hr⟩ := bind_some hr
                  refine awpl_op rfl (opTo_append (k := 33) (F := cS) (l := s33.2.2) (xs := (([v37] : List Str))) (lim := 8796093022208) rfl rfl rfl rfl ty_s_string ty_string rfl rfl (fun _ => rfl) rfl h56) ?_
                  refine awpl_op rfl (opTo_store rfl rfl rfl ty_s_string rfl rfl) ?_
                  refine awpl_nil ?_
                  refine kblock_normal ?_
                  refine rndK (fr'' := [(0, .fn (.yield b16) [] []), (4, .mp 2006), (6, .ptr 6 0), (7, .fn (.func 62) [] [.ptr 1005 0, .ptr 6 0]), (8, .s v37)]) (σ'' := [(3006, .row 9 false 1 (List.map cS v39)), (6, .cells [.hs 3006 0]), (1005, .cells [.mp 1011]), (1011, .mapo false (menc keyS cB s33.2.1)), (2006, .mapo false (menc keyS (cL cS) b18)), (1699999, .sus g0.w.heap.size ds16), (1699998, .lp b16 L16), (1600005, .hold (.ptr 5 0) (T16.getD 5 undef)), (1600007, .hold (.ptr 7 0) (T16.getD 7 undef)), (1600008, .hold (.ptr 8 0) (T16.getD 8 undef)), (1600024, .hold (.fn (.func 61) [] [.ptr 2 0, .ptr 3 0]) (T16.getD 24 undef)), (3, .cells [.l cS (([a1] : List Str))]), (2, .cells [.l TAlias.pc a0]), (1008, .row 9 false 1 (List.map cS v55)), (8, .cells [.hs 1008 0]), (7, .cells [.mp 1006]), (1006, .mapo false (menc keyS (cL cS) b12)), (5, .cells [.i 0, .i 0])]) .off stoLe_refl rfl (.cons rfl (.cons rfl (.cons rfl (.cons rfl (.cons rfl .nil))))) rfl (stoLe_cons rfl (stoLe_cons rfl (stoLe_cons rfl (stoLe_cons rfl (stoLe_cons rfl (stoLe_cons rfl (stoLe_cons rfl (stoLe_cons rfl (stoLe_cons rfl (stoLe_cons rfl (stoLe_cons rfl (stoLe_cons rfl (stoLe_cons rfl (stoLe_cons rfl (stoLe_cons rfl (stoLe_cons rfl (stoLe_cons rfl (stoLe_cons rfl stoLe_nil)))))))))))))))))) ?_
                  refine awpl_op rfl (opTo_q (d := 27) rfl rfl (ev_not rfl)) ?_
                  refine awpl_nil ?_
                  refine kthen_normal ?_
                  refine awp_cond (t := false) rfl (fun h => nomatch h) (fun _ => ?_)
                  refine awp_skip ?_
                  refine kthen_normal ?_
                  refine awp_region ?_
                  refine awpl_op rfl (opTo_q (d := 28) rfl rfl ev_move) ?_
                  refine awpl_op rfl (opTo_q (d := 29) rfl rfl ev_move) ?_
                  refine awpl_op rfl (opTo_q (d := 30) rfl rfl ev_move) ?_
                  refine awpl_op rfl (opTo_q (d := 31) rfl rfl (ev_lookup (KK := keyS) (F := (cL cS)) (es := b18) (k := v37) (z := (([] : List Str))) rfl rfl rfl ty_map_string_s_string.u ty_string.u ty_s_string rfl)) ?_
                  refine awpl_inl (fn := Try.f62) (args := [.l cS (((mget b18 v37).getD (([] : List Str)))), .ptr 1005 0, .ptr 6 0]) 2700000 2799999 [(0, .fn (.yield b16) [] []), (4, .mp 2006), (6, .ptr 6 0), (7, .fn (.func 62) [] [.ptr 1005 0, .ptr 6 0])] (wanted_plain rfl) rfl ⟨Try.func62, rfl, by kernel_rfl⟩ rfl rfl (.cons rfl (.cons rfl (.cons rfl (.cons rfl .nil)))) fun T27 ds27 hT27 => ?_
                  refine awp_seq ?_
                  refine awp_region ?_
                  refine awpl_op rfl (opTo_q (d := 6) rfl rfl ev_move) ?_
                  refine awpl_op rfl (opTo_q (d := 7) rfl rfl (ev_llen (f := cS) rfl ty_s_string.u)) ?_
                  refine awpl_op rfl (opTo_q (d := 8) rfl rfl ev_move) ?_
                  refine awpl_nil ?_
                  refine kthen_normal ?_
                  refine awp_block ?_
                  obtain ⟨b58, hl, hr⟩ := bind_some hr
                  refine awp_loop (alias_Expand_l6 b18 v37) (fun s57 => [(1, .ptr 1005 0), (2, .ptr 6 0), (6, .l cS (((mget b18 v37).getD (([] : List Str))))), (7, .i (((((mget b18 v37).getD (([] : List Str)))).length : Int))), (8, .i s57.1)]) (fun s57 => [(2799999, .sus g0.w.heap.size ds27), (2700000, .hold (.fn (.yield b16) [] []) (T27.getD 0 undef)), (2700004, .hold (.mp 2006) (T27.getD 4 undef)), (2700006, .hold (.ptr 6 0) (T27.getD 6 undef)), (2700007, .hold (.fn (.func 62) [] [.ptr 1005 0, .ptr 6 0]) (T27.getD 7 undef)), (3006, .row 9 false 1 (List.map cS s57.2.1)), (6, .cells [.hs 3006 0]), (1005, .cells [.mp 1011]), (1011, .mapo false (menc keyS cB s57.2.2)), (2006, .mapo false (menc keyS (cL cS) b18)), (1699999, .sus g0.w.heap.size ds16), (1699998, .lp b16 L16), (1600005, .hold (.ptr 5 0) (T16.getD 5 undef)), (1600007, .hold (.ptr 7 0) (T16.getD 7 undef)), (1600008, .hold (.ptr 8 0) (T16.getD 8 undef)), (1600024, .hold (.fn (.func 61) [] [.ptr 2 0, .ptr 3 0]) (T16.getD 24 undef)), (3, .cells [.l cS (([a1] : List Str))]), (2, .cells [.l TAlias.pc a0]), (1008, .row 9 false 1 (List.map cS v55)), (8, .cells [.hs 1008 0]), (7, .cells [.mp 1006]), (1006, .mapo false (menc keyS (cL cS) b12)), (5, .cells [.i 0, .i 0])]) (fun b58 => At (.exit 0) [] [(2799999, .sus g0.w.heap.size ds27), (2700000, .hold (.fn (.yield b16) [] []) (T27.getD 0 undef)), (2700004, .hold (.mp 2006) (T27.getD 4 undef)), (2700006, .hold (.ptr 6 0) (T27.getD 6 undef)), (2700007, .hold (.fn (.func 62) [] [.ptr 1005 0, .ptr 6 0]) (T27.getD 7 undef)), (3006, .row 9 false 1 (List.map cS b58.1)), (6, .cells [.hs 3006 0]), (1005, .cells [.mp 1011]), (1011, .mapo false (menc keyS cB b58.2)), (2006, .mapo false (menc keyS (cL cS) b18)), (1699999, .sus g0.w.heap.size ds16), (1699998, .lp b16 L16), (1600005, .hold (.ptr 5 0) (T16.getD 5 undef)), (1600007, .hold (.ptr 7 0) (T16.getD 7 undef)), (1600008, .hold (.ptr 8 0) (T16.getD 8 undef)), (1600024, .hold (.fn (.func 61) [] [.ptr 2 0, .ptr 3 0]) (T16.getD 24 undef)), (3, .cells [.l cS (([a1] : List Str))]), (2, .cells [.l TAlias.pc a0]), (1008, .row 9 false 1 (List.map cS v55)), (8, .cells [.hs 1008 0]), (7, .cells [.mp 1006]), (1006, .mapo false (menc keyS (cL cS) b12)), (5, .cells [.i 0, .i 0])]) ?_ ((0, v39, s33.2.1)) hl (frLe_cons rfl (frLe_cons rfl (frLe_cons rfl (frLe_cons rfl (frLe_cons rfl frLe_nil))))) (stoLe_cons rfl (stoLe_cons rfl (stoLe_cons rfl (stoLe_cons rfl (stoLe_cons rfl (stoLe_cons rfl (stoLe_cons rfl (stoLe_cons rfl (stoLe_cons rfl (stoLe_cons rfl (stoLe_cons rfl (stoLe_cons rfl (stoLe_cons rfl (stoLe_cons rfl (stoLe_cons rfl (stoLe_cons rfl (stoLe_cons rfl (stoLe_cons rfl (stoLe_cons rfl (stoLe_cons rfl (stoLe_cons rfl (stoLe_cons rfl (stoLe_cons rfl stoLe_nil))))))))))))))))))))))) ?_
                  · intro s57 x59 hr
                    unfold alias_Expand_l6 at hr
                    refine awp_seq ?_
                    refine awp_region ?_
                    refine awpl_op rfl (opTo_q (d := 9) rfl rfl (ev_lss rfl rfl)) ?_
                    refine awpl_nil ?_
                    refine kthen_normal ?_
                    refine awp_seq ?_
                    refine awp_cond rfl (fun c60 => ?_) (fun c60 => ?_)
                    · replace hr := cond_t c60 hr
                      refine awp_skip ?_
                      refine kthen_normal ?_
                      obtain ⟨j61, hx, hy⟩ := bind_some hr
                      refine awp_join (fun j61 => [(1, .ptr 1005 0), (2, .ptr 6 0), (6, .l cS (((mget b18 v37).getD (([] : List Str))))), (7, .i (((((mget b18 v37).getD (([] : List Str)))).length : Int))), (8, .i s57.1)]) (fun j61 => [(2799999, .sus g0.w.heap.size ds27), (2700000, .hold (.fn (.yield b16) [] []) (T27.getD 0 undef)), (2700004, .hold (.mp 2006) (T27.getD 4 undef)), (2700006, .hold (.ptr 6 0) (T27.getD 6 undef)), (2700007, .hold (.fn (.func 62) [] [.ptr 1005 0, .ptr 6 0]) (T27.getD 7 undef)), (3006, .row 9 false 1 (List.map cS j61.1)), (6, .cells [.hs 3006 0]), (1005, .cells [.mp 1011]), (1011, .mapo false (menc keyS cB j61.2)), (2006, .mapo false (menc keyS (cL cS) b18)), (1699999, .sus g0.w.heap.size ds16), (1699998, .lp b16 L16), (1600005, .hold (.ptr 5 0) (T16.getD 5 undef)), (1600007, .hold (.ptr 7 0) (T16.getD 7 undef)), (1600008, .hold (.ptr 8 0) (T16.getD 8 undef)), (1600024, .hold (.fn (.func 61) [] [.ptr 2 0, .ptr 3 0]) (T16.getD 24 undef)), (3, .cells [.l cS (([a1] : List Str))]), (2, .cells [.l TAlias.pc a0]), (1008, .row 9 false 1 (List.map cS v55)), (8, .cells [.hs 1008 0]), (7, .cells [.mp 1006]), (1006, .mapo false (menc keyS (cL cS) b12)), (5, .cells [.i 0, .i 0])]) (fun z => j61 = z) ?_ ?_
                      · have hr := hx
                        clear hx hy
                        refine awp_block ?_
                        refine awp_seq ?_
                        refine awp_region ?_
                        obtain ⟨v62, h63, hr⟩ := bind_some hr
                        refine awpl_op rfl (opTo_q (d := 10) rfl rfl (ev_idx (f := cS) rfl rfl ty_s_string ty_string rfl h63)) ?_
                        refine awpl_op rfl (opTo_q (d := 11) rfl rfl (ev_load_ep rfl ty_string rfl rfl)) ?_
                        refine awpl_op rfl (opTo_q (d := 5) rfl rfl ev_assign) ?_
                        refine awpl_nil ?_
                        refine kthen_normal ?_
                        refine awp_seq ?_
                        refine awp_region ?_
                        refine awpl_op rfl (opTo_q (d := 12) rfl rfl (ev_load rfl rfl ty_map_string_bool rfl rfl)) ?_
                        refine awpl_op rfl (opTo_q (d := 13) rfl rfl ev_move) ?_
                        refine awpl_op rfl (opTo_q (d := 14) rfl rfl (ev_lookup (KK := keyS) (F := cB) (es := s57.2.2) (k := v62) (z := false) rfl rfl rfl ty_map_string_bool.u ty_string.u ty_bool rfl)) ?_
                        refine awpl_op rfl (opTo_q (d := 15) rfl rfl (ev_not rfl)) ?_
                        refine awpl_nil ?_
                        refine kthen_normal ?_
                        refine awp_cond rfl (fun c64 => ?_) (fun c64 => ?_)
                        · replace hr := cond_t c64 hr
                          refine awp_seq ?_
                          refine awp_region ?_
                          refine awpl_op rfl (opTo_q (d := 16) rfl rfl (ev_load rfl rfl ty_map_string_bool rfl rfl)) ?_
                          refine awpl_op rfl (opTo_q (d := 17) rfl rfl ev_move) ?_
                          refine awpl_op rfl (opTo_mapUpdate (KK := keyS) (F := cB) (es := s57.2.2) (k := v62) (v := true) rfl rfl rfl rfl rfl ty_map_string_bool.u ty_string.u) ?_
                          refine awpl_nil ?_
                          refine kthen_normal ?_
                          refine awp_region ?_
                          refine awpl_op rfl (opTo_q (d := 18) rfl rfl (ev_load rfl rfl ty_s_string rfl rfl)) ?_
                          refine awpl_op rfl (opTo_q (d := 19) rfl rfl ev_move) ?_
                          refine awpl_op rfl (opTo_g (d := 20) rfl rfl (opG_lit (F := cS) (l := ([v62] : List Str)) ty_s_string ty_string rfl (fun _ => rfl) rfl rfl)) ?_
                          obtain ⟨v65, h66, hr⟩ := bind_some hr
                          refine awpl_op rfl (opTo_append (k := 21) (F := cS) (l := s57.2.1) (xs := (([v62] : List Str))) (lim := 8796093022208) rfl rfl rfl rfl ty_s_string ty_string rfl rfl (fun _ => rfl) rfl h66) ?_
                          refine awpl_op rfl (opTo_store rfl rfl rfl ty_s_string rfl rfl) ?_
                          refine awpl_nil ?_
                          refine kblock_normal ?_
                          cases hr
                          exact joinK_normal _ rfl (frLe_cons rfl (frLe_cons rfl (frLe_cons rfl (frLe_cons rfl (frLe_cons rfl frLe_nil))))) (stoLe_cons rfl (stoLe_cons rfl (stoLe_cons rfl (stoLe_cons rfl (stoLe_cons rfl (stoLe_cons rfl (stoLe_cons rfl (stoLe_cons rfl (stoLe_cons rfl (stoLe_cons rfl (stoLe_cons rfl (stoLe_cons rfl (stoLe_cons rfl (stoLe_cons rfl (stoLe_cons rfl (stoLe_cons rfl (stoLe_cons rfl (stoLe_cons rfl (stoLe_cons rfl (stoLe_cons rfl (stoLe_cons rfl (stoLe_cons rfl (stoLe_cons rfl stoLe_nil)))))))))))))))))))))))
                        · replace hr := cond_f c64 hr
                          refine awp_skip ?_
                          refine kblock_normal ?_
                          cases hr
                          exact joinK_normal _ rfl (frLe_cons rfl (frLe_cons rfl (frLe_cons rfl (frLe_cons rfl (frLe_cons rfl frLe_nil))))) (stoLe_cons rfl (stoLe_cons rfl (stoLe_cons rfl (stoLe_cons rfl (stoLe_cons rfl (stoLe_cons rfl (stoLe_cons rfl (stoLe_cons rfl (stoLe_cons rfl (stoLe_cons rfl (stoLe_cons rfl (stoLe_cons rfl (stoLe_cons rfl (stoLe_cons rfl (stoLe_cons rfl (stoLe_cons rfl (stoLe_cons rfl (stoLe_cons rfl (stoLe_cons rfl (stoLe_cons rfl (stoLe_cons rfl (stoLe_cons rfl (stoLe_cons rfl stoLe_nil)))))))))))))))))))))))
                      · rintro _ rfl
                        have hr := hy
                        clear hx hy
                        refine awp_region ?_
                        refine awpl_op rfl (opTo_q (d := 22) rfl rfl (ev_add rfl rfl)) ?_
                        refine awpl_op rfl (opTo_q (d := 8) rfl rfl ev_move) ?_
                        refine awpl_nil ?_
                        cases hr
                        exact ⟨rfl, (frLe_cons rfl (frLe_cons rfl (frLe_cons rfl (frLe_cons rfl (frLe_cons rfl frLe_nil))))), (stoLe_cons rfl (stoLe_cons rfl (stoLe_cons rfl (stoLe_cons rfl (stoLe_cons rfl (stoLe_cons rfl (stoLe_cons rfl (stoLe_cons rfl (stoLe_cons rfl (stoLe_cons rfl (stoLe_cons rfl (stoLe_cons rfl (stoLe_cons rfl (stoLe_cons rfl (stoLe_cons rfl (stoLe_cons rfl (stoLe_cons rfl (stoLe_cons rfl (stoLe_cons rfl (stoLe_cons rfl (stoLe_cons rfl (stoLe_cons rfl (stoLe_cons rfl stoLe_nil)))))))))))))))))))))))⟩
                    · replace hr := cond_f c60 hr
                      refine awp_exit ?_
                      refine kthen_exit ?_
                      cases hr
                      exact ⟨by simp, rfl, frLe_nil, (stoLe_cons rfl (stoLe_cons rfl (stoLe_cons rfl (stoLe_cons rfl (stoLe_cons rfl (stoLe_cons rfl (stoLe_cons rfl (stoLe_cons rfl (stoLe_cons rfl (stoLe_cons rfl (stoLe_cons rfl (stoLe_cons rfl (stoLe_cons rfl (stoLe_cons rfl (stoLe_cons rfl (stoLe_cons rfl (stoLe_cons rfl (stoLe_cons rfl (stoLe_cons rfl (stoLe_cons rfl (stoLe_cons rfl (stoLe_cons rfl (stoLe_cons rfl stoLe_nil)))))))))))))))))))))))⟩
                  · intro e fr2 st2 hq
                    obtain ⟨rfl, hf, hs⟩ := hq
                    refine kblock_exit ?_
                    refine inlK (cs := []) (fr'' := [(0, .fn (.yield b16) [] []), (4, .mp 2006), (6, .ptr 6 0), (7, .fn (.func 62) [] [.ptr 1005 0, .ptr 6 0])]) (σ'' := [(3006, .row 9 false 1 (List.map cS b58.1)), (6, .cells [.hs 3006 0]), (1005, .cells [.mp 1011]), (1011, .mapo false (menc keyS cB b58.2)), (2006, .mapo false (menc keyS (cL cS) b18)), (1699999, .sus g0.w.heap.size ds16), (1699998, .lp b16 L16), (1600005, .hold (.ptr 5 0) (T16.getD 5 undef)), (1600007, .hold (.ptr 7 0) (T16.getD 7 undef)), (1600008, .hold (.ptr 8 0) (T16.getD 8 undef)), (1600024, .hold (.fn (.func 61) [] [.ptr 2 0, .ptr 3 0]) (T16.getD 24 undef)), (3, .cells [.l cS (([a1] : List Str))]), (2, .cells [.l TAlias.pc a0]), (1008, .row 9 false 1 (List.map cS v55)), (8, .cells [.hs 1008 0]), (7, .cells [.mp 1006]), (1006, .mapo false (menc keyS (cL cS) b12)), (5, .cells [.i 0, .i 0])]) (.inr rfl) hf hs .nil (.cons rfl (.cons rfl (.cons rfl (.cons rfl .nil)))) rfl (stoLe_cons rfl (stoLe_cons rfl (stoLe_cons rfl (stoLe_cons rfl (stoLe_cons rfl (stoLe_cons rfl (stoLe_cons rfl (stoLe_cons rfl (stoLe_cons rfl (stoLe_cons rfl (stoLe_cons rfl (stoLe_cons rfl (stoLe_cons rfl (stoLe_cons rfl (stoLe_cons rfl (stoLe_cons rfl (stoLe_cons rfl (stoLe_cons rfl stoLe_nil)))))))))))))))))) ?_
                    refine awpl_nil ?_
                    refine kblock_normal ?_
                    cases hr
                    exact ⟨rfl, (frLe_cons rfl (frLe_cons rfl (frLe_cons rfl (frLe_cons rfl frLe_nil)))), (stoLe_cons rfl (stoLe_cons rfl (stoLe_cons rfl (stoLe_cons rfl (stoLe_cons rfl (stoLe_cons rfl (stoLe_cons rfl (stoLe_cons rfl (stoLe_cons rfl (stoLe_cons rfl (stoLe_cons rfl (stoLe_cons rfl (stoLe_cons rfl (stoLe_cons rfl (stoLe_cons rfl (stoLe_cons rfl (stoLe_cons rfl (stoLe_cons rfl stoLe_nil))))))))))))))))))⟩
              · replace hr := cond_f c36 hr
                refine awp_exit ?_
                refine kthen_exit ?_
                cases hr
                exact ⟨by simp, rfl, frLe_nil, (stoLe_cons rfl (stoLe_cons rfl (stoLe_cons rfl (stoLe_cons rfl (stoLe_cons rfl (stoLe_cons rfl (stoLe_cons rfl (stoLe_cons rfl (stoLe_cons rfl (stoLe_cons rfl (stoLe_cons rfl (stoLe_cons rfl (stoLe_cons rfl stoLe_nil)))))))))))))⟩
            · intro e fr2 st2 hq
              obtain ⟨rfl, hf, hs⟩ := hq
              refine kblock_exit ?_
              refine itrK (L' := L16) (fr'' := [(5, .ptr 5 0), (7, .ptr 7 0), (8, .ptr 8 0), (24, .fn (.func 61) [] [.ptr 2 0, .ptr 3 0])]) (σ'' := [(3, .cells [.l cS (([a1] : List Str))]), (2, .cells [.l TAlias.pc a0]), (1008, .row 9 false 1 (List.map cS b34)), (8, .cells [.hs 1008 0]), (7, .cells [.mp 1006]), (1006, .mapo false (menc keyS (cL cS) b12)), (5, .cells [.i 0, .i 0])]) (.inr rfl) hs rfl (.cons rfl (.cons rfl (.cons rfl (.cons rfl .nil)))) rfl (stoLe_cons rfl (stoLe_cons rfl (stoLe_cons rfl (stoLe_cons rfl (stoLe_cons rfl (stoLe_cons rfl (stoLe_cons rfl stoLe_nil))))))) rfl ?_
              refine .off ?_
              refine kblock_normal ?_
              refine kthen_normal ?_
              refine awp_seq ?_
              obtain ⟨v67, h68, hr⟩ := bind_some hr
              refine awp_drawn 2 [(35, .agg [.i v67.Code, .i v67.Index]), (34, .hs 1008 0)] mixed (by kernel_rfl) rfl rfl (.run (.plain rfl) (opG_q (ev_load rfl rfl ty_s_string rfl rfl)) (.run (.plain rfl) (opG_call (basic_None_run  v67 h68) rfl) .nil)) rfl ?_
              refine awpl_op rfl (opTo_q (d := 4) rfl rfl ev_assign) ?_
              refine awpl_op rfl (opTo_store rfl rfl rfl ty_api_Fault rfl rfl) ?_
              refine awpl_nil ?_
              refine kthen_normal ?_
              refine awp_pub (d := 4) (F := cS) (l := b34) rfl rfl ?_
              refine awp_ret ?_
              cases hr
              exact kret' rfl (.cons (res_tmp rfl) (.cons (res_cellN rfl rfl ty_api_Fault rfl rfl) .nil)) rfl
end Go.Proofs.Ytlpmbmilnoncdaa

/- A function of the program computes what its Lean function does. Written by program. -/
namespace Go.Proofs.Ytlpmbmilnoncdaa
open Go.RowKit
set_option maxRecDepth 100000
set_option maxHeartbeats 40000000
set_option linter.unusedVariables false
theorem alias_Loops_run (a0 : List TAlias) (r : (List Str) × TFault) (hr : alias_Loops a0 = some r) : Run Try.prog 33 [.l TAlias.pc a0] (.tup [.l cS r.1, .agg [.i r.2.Code, .i r.2.Index]]) := by
  unfold alias_Loops at hr
  refine run_of_awp (fn := Try.f33) ⟨Try.func33, rfl, by kernel_rfl⟩ rfl (fun _ => rfl) fun g0 hg => ?_
  refine awp_seq ?_
  refine awp_region ?_
  refine awpl_op rfl (opTo_q (d := 2) rfl rfl ev_assign) ?_
  refine awpl_op rfl (opTo_alloc (k := 3) 3 rfl ty_api_Fault (.inr ⟨rfl, rfl⟩) rfl rfl rfl) ?_
  refine awpl_nil ?_
  refine kthen_normal ?_
  refine awp_seq ?_
  refine awp_seq ?_
  refine awp_region ?_
  refine awpl_op rfl (opTo_q (d := 9) rfl rfl ev_move) ?_
  obtain ⟨v1, h2, hr⟩ := bind_some hr
  refine awpl_op rfl (opTo_call (k := 10) (alias_Validate_run a0 v1 h2) rfl rfl) ?_
  refine awpl_op rfl (opTo_alloc (k := 4) 4 rfl ty_api_Fault (.inr ⟨rfl, rfl⟩) rfl rfl rfl) ?_
  refine awpl_op rfl (opTo_store rfl rfl rfl ty_api_Fault rfl rfl) ?_
  refine awpl_nil ?_
  refine kthen_normal ?_
  refine awp_seq ?_
  refine awp_region ?_
  refine awpl_op rfl (opTo_q (d := 11) rfl rfl (ev_loadN rfl rfl ty_api_Fault rfl rfl)) ?_
  obtain ⟨v3, h4, hr⟩ := bind_some hr
  refine awpl_op rfl (opTo_call (k := 12) (basic_Failed_run v1 v3 h4) rfl rfl) ?_
  refine awpl_nil ?_
  refine kthen_normal ?_
  refine awp_cond rfl (fun c5 => ?_) (fun c5 => ?_)
  · replace hr := cond_t c5 hr
    refine awp_seq ?_
    refine awp_drawn 2 [(2, .pv (.sl (some true) [])), (13, .agg [.i v1.Code, .i v1.Index])] mixed (by kernel_rfl) rfl rfl (.run (.plain rfl) (opG_q (ev_loadN rfl rfl ty_api_Fault rfl rfl)) (.run (.plain rfl) (opG_q ev_assign) .nil)) rfl ?_
    refine awpl_op rfl (opTo_store rfl rfl rfl ty_api_Fault rfl rfl) ?_
    refine awpl_nil ?_
    refine kthen_normal ?_
    refine awp_ret ?_
    refine kthen_ret ?_
    cases hr
    exact kret' rfl (.cons (res_tmp rfl) (.cons (res_cellN rfl rfl ty_api_Fault rfl rfl) .nil)) rfl
  · replace hr := cond_f c5 hr
    refine awp_skip ?_
    refine kthen_normal ?_
    refine awp_seq ?_
    refine awp_region ?_
    refine awpl_op rfl (opTo_alloc (k := 5) 5 rfl ty_s_string (.inl rfl) rfl rfl rfl) ?_
    refine awpl_adoptC 1005 (o := 5) (j := 0) 9 1 rfl rfl rfl rfl ?_
    refine awpl_nil ?_
    refine kthen_normal ?_
    refine awp_seq ?_
    refine awp_seq ?_
    refine awp_region ?_
    refine awpl_op rfl (opTo_q (d := 14) rfl rfl ev_move) ?_
    refine awpl_op rfl (opTo_q (d := 15) rfl rfl (ev_llen (f := TAlias.pc) rfl ty_s_api_Alias.u)) ?_
    refine awpl_op rfl (opTo_q (d := 16) rfl rfl ev_move) ?_
    refine awpl_nil ?_
    refine kthen_normal ?_
    refine awp_block ?_
    obtain ⟨b7, hl, hr⟩ := bind_some hr
    refine awp_loop (alias_Loops_l1 a0) (fun s6 => [(0, .l TAlias.pc a0), (3, .ptr 3 0), (5, .ptr 5 0), (14, .l TAlias.pc a0), (15, .i ((a0.length : Int))), (16, .i s6.1)]) (fun s6 => [(1005, .row 9 false 1 (List.map cS s6.2)), (5, .cells [.hs 1005 0]), (3, .cells [.i 0, .i 0])]) (fun b7 => At (.exit 0) [(3, .ptr 3 0), (5, .ptr 5 0)] [(1005, .row 9 false 1 (List.map cS b7)), (5, .cells [.hs 1005 0]), (3, .cells [.i 0, .i 0])]) ?_ ((0, ([] : List Str))) hl (frLe_cons rfl (frLe_cons rfl (frLe_cons rfl (frLe_cons rfl (frLe_cons rfl (frLe_cons rfl frLe_nil)))))) (stoLe_cons rfl (stoLe_cons rfl (stoLe_cons rfl stoLe_nil))) ?_
    · intro s6 x8 hr
      unfold alias_Loops_l1 at hr
      refine awp_seq ?_
      refine awp_region ?_
      refine awpl_op rfl (opTo_q (d := 17) rfl rfl (ev_lss rfl rfl)) ?_
      refine awpl_nil ?_
      refine kthen_normal ?_
      refine awp_seq ?_
      refine awp_cond rfl (fun c9 => ?_) (fun c9 => ?_)
      · replace hr := cond_t c9 hr
        refine awp_skip ?_
        refine kthen_normal ?_
        obtain ⟨j10, hx, hy⟩ := bind_some hr
        refine awp_join (fun j10 => [(0, .l TAlias.pc a0), (3, .ptr 3 0), (5, .ptr 5 0), (14, .l TAlias.pc a0), (15, .i ((a0.length : Int))), (16, .i s6.1)]) (fun j10 => [(1005, .row 9 false 1 (List.map cS j10)), (5, .cells [.hs 1005 0]), (3, .cells [.i 0, .i 0])]) (fun z => j10 = z) ?_ ?_
        · have hr := hx
          clear hx hy
          refine awp_block ?_
          refine awp_seq ?_
          refine awp_region ?_
          obtain ⟨v11, h12, hr⟩ := bind_some hr
          refine awpl_op rfl (opTo_q (d := 18) rfl rfl (ev_idx (f := TAlias.pc) rfl rfl ty_s_api_Alias ty_api_Alias rfl h12)) ?_
          refine awpl_op rfl (opTo_q (d := 19) rfl rfl (ev_load_epN rfl ty_api_Alias rfl rfl)) ?_
          refine awpl_op rfl (opTo_alloc (k := 7) 7 rfl ty_api_Alias (.inr ⟨rfl, rfl⟩) rfl rfl rfl) ?_
          refine awpl_op rfl (opTo_store rfl rfl rfl ty_api_Alias rfl rfl) ?_
          refine awpl_nil ?_
          refine kthen_normal ?_
          refine awp_seq ?_
          refine awp_region ?_
          refine awpl_op rfl (opTo_q (d := 20) rfl rfl ev_move) ?_
          refine awpl_op rfl (opTo_q (d := 21) rfl rfl (ev_fieldAddr rfl ty_api_Alias.u rfl ty_s_string rfl)) ?_
          refine awpl_op rfl (opTo_q (d := 22) rfl rfl (ev_load rfl rfl ty_s_string rfl rfl)) ?_
          refine awpl_inl (fn := Try.f48) (args := [.l TAlias.pc a0, .l cS v11.To]) 5100000 5199999 [(0, .l TAlias.pc a0), (3, .ptr 3 0), (5, .ptr 5 0), (7, .ptr 7 0), (14, .l TAlias.pc a0), (15, .i ((a0.length : Int))), (16, .i s6.1)] (wanted_plain rfl) rfl ⟨Try.func48, rfl, by kernel_rfl⟩ rfl rfl (.cons rfl (.cons rfl (.cons rfl (.cons rfl (.cons rfl (.cons rfl (.cons rfl .nil))))))) fun T51 ds51 hT51 => ?_
          refine awp_seq ?_
          refine awp_region ?_
          refine awpl_op rfl (opTo_box (k := 2) 2 rfl rfl rfl rfl rfl) ?_
          refine awpl_op rfl (opTo_box (k := 3) 1003 rfl rfl rfl rfl rfl) ?_
          refine awpl_op rfl (opTo_q (d := 4) rfl rfl ev_assign) ?_
          refine awpl_nil ?_
          refine kthen_normal ?_
          refine awp_seq ?_
          refine awp_region ?_
          refine awpl_op rfl (opTo_q (d := 5) rfl rfl (ev_makeFunc rfl rfl)) ?_
          refine awpl_op rfl (opTo_q (d := 4) rfl rfl ev_assign) ?_
          refine awpl_nil ?_
          refine kthen_normal ?_
          refine awp_ret ?_
          refine inlK (cs := [.fn (.func 61) [] [.ptr 2 0, .ptr 1003 0]]) (fr'' := [(0, .l TAlias.pc a0), (3, .ptr 3 0), (5, .ptr 5 0), (7, .ptr 7 0), (14, .l TAlias.pc a0), (15, .i ((a0.length : Int))), (16, .i s6.1)]) (σ'' := [(1003, .cells [.l cS v11.To]), (2, .cells [.l TAlias.pc a0]), (7, .cells [.s v11.Address, .l cS v11.To]), (1005, .row 9 false 1 (List.map cS s6.2)), (5, .cells [.hs 1005 0]), (3, .cells [.i 0, .i 0])]) (.inl rfl) frLe_refl stoLe_refl (.cons (res_tmp rfl) .nil) (.cons rfl (.cons rfl (.cons rfl (.cons rfl (.cons rfl (.cons rfl (.cons rfl .nil))))))) rfl (stoLe_cons rfl (stoLe_cons rfl (stoLe_cons rfl (stoLe_cons rfl (stoLe_cons rfl (stoLe_cons rfl stoLe_nil)))))) ?_
          refine awpl_nil ?_
          refine kthen_normal ?_
          refine awp_block ?_
          refine awp_rangef (fn0 := Try.f61) 5200000 5299998 5299999 [(0, .l TAlias.pc a0), (3, .ptr 3 0), (5, .ptr 5 0), (7, .ptr 7 0), (14, .l TAlias.pc a0), (15, .i ((a0.length : Int))), (16, .i s6.1), (23, .fn (.func 61) [] [.ptr 2 0, .ptr 1003 0])] rfl rfl rfl ⟨Try.func61, rfl, by kernel_rfl⟩ rfl rfl rfl rfl rfl (.cons rfl (.cons rfl (.cons rfl (.cons rfl (.cons rfl (.cons rfl (.cons rfl (.cons rfl .nil)))))))) fun T52 b52 L52 ds52 hT52 hLs52 hLp52 hLt52 hLq52 hLa52 hLb52 => ?_
          refine awp_seq ?_
          refine awp_region ?_
          refine awpl_op rfl (opTo_q (d := 9) rfl rfl (ev_load rfl rfl ty_s_api_Alias rfl rfl)) ?_
          refine awpl_inl (fn := Try.f47) (args := [.l TAlias.pc a0]) 5300000 5399999 [(0, .fn (.yield b52) [] []), (2, .ptr 1003 0)] (wanted_plain rfl) rfl ⟨Try.func47, rfl, by kernel_rfl⟩ rfl rfl (.cons rfl (.cons rfl .nil)) fun T53 ds53 hT53 => ?_
          refine awp_seq ?_
          refine awp_region ?_
          refine awpl_op rfl (opTo_q (d := 2) rfl rfl ev_assign) ?_
          refine awpl_nil ?_
          refine kthen_normal ?_
          refine awp_seq ?_
          refine awp_region ?_
          refine awpl_op rfl (opTo_makeMap (k0 := 6) 1006 false rfl rfl rfl) ?_
          refine awpl_op rfl (opTo_q (d := 3) rfl rfl ev_assign) ?_
          refine awpl_nil ?_
          refine kthen_normal ?_
          refine awp_seq ?_
          refine awp_seq ?_
          refine awp_region ?_
          refine awpl_op rfl (opTo_q (d := 7) rfl rfl ev_move) ?_
          refine awpl_op rfl (opTo_q (d := 8) rfl rfl (ev_llen (f := TAlias.pc) rfl ty_s_api_Alias.u)) ?_
          refine awpl_op rfl (opTo_q (d := 9) rfl rfl ev_move) ?_
          refine awpl_nil ?_
          refine kthen_normal ?_
          refine awp_block ?_
          obtain ⟨b14, hl, hr⟩ := bind_some hr
          refine awp_loop (alias_Loops_l2 a0) (fun s13 => [(3, .mp 1006), (7, .l TAlias.pc a0), (8, .i ((a0.length : Int))), (9, .i s13.1)]) (fun s13 => [(1006, .mapo false (menc keyS (cL cS) s13.2)), (5399999, .sus g0.w.heap.size ds53), (5300000, .hold (.fn (.yield b52) [] []) (T53.getD 0 undef)), (5300002, .hold (.ptr 1003 0) (T53.getD 2 undef)), (5299999, .sus g0.w.heap.size ds52), (5299998, .lp b52 L52), (5200000, .hold (.l TAlias.pc a0) (T52.getD 0 undef)), (5200003, .hold (.ptr 3 0) (T52.getD 3 undef)), (5200005, .hold (.ptr 5 0) (T52.getD 5 undef)), (5200007, .hold (.ptr 7 0) (T52.getD 7 undef)), (5200014, .hold (.l TAlias.pc a0) (T52.getD 14 undef)), (5200015, .hold (.i ((a0.length : Int))) (T52.getD 15 undef)), (5200016, .hold (.i s6.1) (T52.getD 16 undef)), (5200023, .hold (.fn (.func 61) [] [.ptr 2 0, .ptr 1003 0]) (T52.getD 23 undef)), (1003, .cells [.l cS v11.To]), (2, .cells [.l TAlias.pc a0]), (7, .cells [.s v11.Address, .l cS v11.To]), (1005, .row 9 false 1 (List.map cS s6.2)), (5, .cells [.hs 1005 0]), (3, .cells [.i 0, .i 0])]) (fun b14 => At (.exit 0) [(3, .mp 1006)] [(1006, .mapo false (menc keyS (cL cS) b14)), (5399999, .sus g0.w.heap.size ds53), (5300000, .hold (.fn (.yield b52) [] []) (T53.getD 0 undef)), (5300002, .hold (.ptr 1003 0) (T53.getD 2 undef)), (5299999, .sus g0.w.heap.size ds52), (5299998, .lp b52 L52), (5200000, .hold (.l TAlias.pc a0) (T52.getD 0 undef)), (5200003, .hold (.ptr 3 0) (T52.getD 3 undef)), (5200005, .hold (.ptr 5 0) (T52.getD 5 undef)), (5200007, .hold (.ptr 7 0) (T52.getD 7 undef)), (5200014, .hold (.l TAlias.pc a0) (T52.getD 14 undef)), (5200015, .hold (.i ((a0.length : Int))) (T52.getD 15 undef)), (5200016, .hold (.i s6.1) (T52.getD 16 undef)), (5200023, .hold (.fn (.func 61) [] [.ptr 2 0, .ptr 1003 0]) (T52.getD 23 undef)), (1003, .cells [.l cS v11.To]), (2, .cells [.l TAlias.pc a0]), (7, .cells [.s v11.Address, .l cS v11.To]), (1005, .row 9 false 1 (List.map cS s6.2)), (5, .cells [.hs 1005 0]), (3, .cells [.i 0, .i 0])]) ?_ ((0, ([] : List (Str × (List Str))))) hl (frLe_cons rfl (frLe_cons rfl (frLe_cons rfl (frLe_cons rfl frLe_nil)))) (stoLe_cons rfl (stoLe_cons rfl (stoLe_cons rfl (stoLe_cons rfl (stoLe_cons rfl (stoLe_cons rfl (stoLe_cons rfl (stoLe_cons rfl (stoLe_cons rfl (stoLe_cons rfl (stoLe_cons rfl (stoLe_cons rfl (stoLe_cons rfl (stoLe_cons rfl (stoLe_cons rfl (stoLe_cons rfl (stoLe_cons rfl (stoLe_cons rfl (stoLe_cons rfl (stoLe_cons rfl stoLe_nil)))))))))))))))))))) ?_
          · intro s13 x15 hr
            unfold alias_Loops_l2 at hr
            refine awp_seq ?_
            refine awp_region ?_
            refine awpl_op rfl (opTo_q (d := 10) rfl rfl (ev_lss rfl rfl)) ?_
            refine awpl_nil ?_
            refine kthen_normal ?_
            refine awp_seq ?_
            refine awp_cond rfl (fun c16 => ?_) (fun c16 => ?_)
            · replace hr := cond_t c16 hr
              refine awp_skip ?_
              refine kthen_normal ?_
              refine awp_seq ?_
              refine awp_block ?_
              refine awp_seq ?_
              refine awp_region ?_
              obtain ⟨v17, h18, hr⟩ := bind_some hr
              refine awpl_op rfl (opTo_q (d := 11) rfl rfl (ev_idx (f := TAlias.pc) rfl rfl ty_s_api_Alias ty_api_Alias rfl h18)) ?_
              refine awpl_op rfl (opTo_q (d := 12) rfl rfl (ev_load_epN rfl ty_api_Alias rfl rfl)) ?_
              refine awpl_op rfl (opTo_alloc (k := 5) 2005 rfl ty_api_Alias (.inr ⟨rfl, rfl⟩) rfl rfl rfl) ?_
              refine awpl_op rfl (opTo_store rfl rfl rfl ty_api_Alias rfl rfl) ?_
              refine awpl_nil ?_
              refine kthen_normal ?_
              refine awp_region ?_
              refine awpl_op rfl (opTo_q (d := 13) rfl rfl ev_move) ?_
              refine awpl_op rfl (opTo_q (d := 14) rfl rfl (ev_fieldAddr rfl ty_api_Alias.u rfl ty_string rfl)) ?_
              refine awpl_op rfl (opTo_q (d := 15) rfl rfl (ev_load rfl rfl ty_string rfl rfl)) ?_
              refine awpl_op rfl (opTo_q (d := 16) rfl rfl (ev_fieldAddr rfl ty_api_Alias.u rfl ty_s_string rfl)) ?_
              refine awpl_op rfl (opTo_q (d := 17) rfl rfl (ev_load rfl rfl ty_s_string rfl rfl)) ?_
              refine awpl_op rfl (opTo_mapUpdate (KK := keyS) (F := (cL cS)) (es := s13.2) (k := v17.Address) (v := v17.To) rfl rfl rfl rfl rfl ty_map_string_s_string.u ty_string.u) ?_
              refine awpl_nil ?_
              refine kblock_normal ?_
              refine kthen_normal ?_
              refine awp_region ?_
              refine awpl_op rfl (opTo_q (d := 18) rfl rfl (ev_add rfl rfl)) ?_
              refine awpl_op rfl (opTo_q (d := 9) rfl rfl ev_move) ?_
              refine awpl_nil ?_
              cases hr
              exact ⟨rfl, (frLe_cons rfl (frLe_cons rfl (frLe_cons rfl (frLe_cons rfl frLe_nil)))), (stoLe_cons rfl (stoLe_cons rfl (stoLe_cons rfl (stoLe_cons rfl (stoLe_cons rfl (stoLe_cons rfl (stoLe_cons rfl (stoLe_cons rfl (stoLe_cons rfl (stoLe_cons rfl (stoLe_cons rfl (stoLe_cons rfl (stoLe_cons rfl (stoLe_cons rfl (stoLe_cons rfl (stoLe_cons rfl (stoLe_cons rfl (stoLe_cons rfl (stoLe_cons rfl (stoLe_cons rfl stoLe_nil))))))))))))))))))))⟩
            · replace hr := cond_f c16 hr
              refine awp_exit ?_
              refine kthen_exit ?_
              cases hr
              exact ⟨by simp, rfl, (frLe_cons rfl frLe_nil), (stoLe_cons rfl (stoLe_cons rfl (stoLe_cons rfl (stoLe_cons rfl (stoLe_cons rfl (stoLe_cons rfl (stoLe_cons rfl (stoLe_cons rfl (stoLe_cons rfl (stoLe_cons rfl (stoLe_cons rfl (stoLe_cons rfl (stoLe_cons rfl (stoLe_cons rfl (stoLe_cons rfl (stoLe_cons rfl (stoLe_cons rfl (stoLe_cons rfl (stoLe_cons rfl (stoLe_cons rfl stoLe_nil))))))))))))))))))))⟩
          · intro e fr2 st2 hq
            obtain ⟨rfl, hf, hs⟩ := hq
            refine kblock_exit ?_
            refine kthen_normal ?_
            refine awp_le hf hs ?_
            refine awp_seq ?_
            refine awp_region ?_
            refine awpl_op rfl (opTo_q (d := 19) rfl rfl ev_move) ?_
            refine awpl_op rfl (opTo_q (d := 2) rfl rfl ev_assign) ?_
            refine awpl_nil ?_
            refine kthen_normal ?_
            refine awp_ret ?_
            refine inlK (cs := [.mp 1006]) (fr'' := [(0, .fn (.yield b52) [] []), (2, .ptr 1003 0)]) (σ'' := [(1006, .mapo false (menc keyS (cL cS) b14)), (5299999, .sus g0.w.heap.size ds52), (5299998, .lp b52 L52), (5200000, .hold (.l TAlias.pc a0) (T52.getD 0 undef)), (5200003, .hold (.ptr 3 0) (T52.getD 3 undef)), (5200005, .hold (.ptr 5 0) (T52.getD 5 undef)), (5200007, .hold (.ptr 7 0) (T52.getD 7 undef)), (5200014, .hold (.l TAlias.pc a0) (T52.getD 14 undef)), (5200015, .hold (.i ((a0.length : Int))) (T52.getD 15 undef)), (5200016, .hold (.i s6.1) (T52.getD 16 undef)), (5200023, .hold (.fn (.func 61) [] [.ptr 2 0, .ptr 1003 0]) (T52.getD 23 undef)), (1003, .cells [.l cS v11.To]), (2, .cells [.l TAlias.pc a0]), (7, .cells [.s v11.Address, .l cS v11.To]), (1005, .row 9 false 1 (List.map cS s6.2)), (5, .cells [.hs 1005 0]), (3, .cells [.i 0, .i 0])]) (.inl rfl) frLe_refl stoLe_refl (.cons (res_tmp rfl) .nil) (.cons rfl (.cons rfl .nil)) rfl (stoLe_cons rfl (stoLe_cons rfl (stoLe_cons rfl (stoLe_cons rfl (stoLe_cons rfl (stoLe_cons rfl (stoLe_cons rfl (stoLe_cons rfl (stoLe_cons rfl (stoLe_cons rfl (stoLe_cons rfl (stoLe_cons rfl (stoLe_cons rfl (stoLe_cons rfl (stoLe_cons rfl (stoLe_cons rfl (stoLe_cons rfl stoLe_nil))))))))))))))))) ?_
            refine awpl_op rfl (opTo_q (d := 4) rfl rfl ev_assign) ?_
            refine awpl_nil ?_
            refine kthen_normal ?_
            refine awp_seq ?_
            refine awp_region ?_
            refine awpl_op rfl (opTo_makeMap (k0 := 11) 1011 false rfl rfl rfl) ?_
            refine awpl_op rfl (opTo_alloc (k := 5) 2005 rfl ty_map_string_bool (.inl rfl) rfl rfl rfl) ?_
            refine awpl_op rfl (opTo_store rfl rfl rfl ty_map_string_bool rfl rfl) ?_
            refine awpl_nil ?_
            refine kthen_normal ?_
            refine awp_seq ?_
            refine awp_region ?_
            refine awpl_op rfl (opTo_alloc (k := 6) 6 rfl ty_s_string (.inl rfl) rfl rfl rfl) ?_
            refine awpl_adoptC 2006 (o := 6) (j := 0) 9 1 rfl rfl rfl rfl ?_
            refine awpl_nil ?_
            refine kthen_normal ?_
            refine awp_seq ?_
            refine awp_region ?_
            refine awpl_op rfl (opTo_q (d := 12) rfl rfl (ev_makeFunc rfl rfl)) ?_
            refine awpl_op rfl (opTo_q (d := 7) rfl rfl ev_assign) ?_
            refine awpl_nil ?_
            refine kthen_normal ?_
            refine awp_seq ?_
            refine awp_region ?_
            refine awpl_op rfl (opTo_q (d := 13) rfl rfl ev_move) ?_
            refine awpl_op rfl (opTo_q (d := 14) rfl rfl (ev_load rfl rfl ty_s_string rfl rfl)) ?_
            refine awpl_inl (fn := Try.f62) (args := [.l cS v11.To, .ptr 2005 0, .ptr 6 0]) 5400000 5499999 [(0, .fn (.yield b52) [] []), (4, .mp 1006), (6, .ptr 6 0), (7, .fn (.func 62) [] [.ptr 2005 0, .ptr 6 0])] (wanted_plain rfl) rfl ⟨Try.func62, rfl, by kernel_rfl⟩ rfl rfl (.cons rfl (.cons rfl (.cons rfl (.cons rfl .nil)))) fun T54 ds54 hT54 => ?_
            refine awp_seq ?_
            refine awp_region ?_
            refine awpl_op rfl (opTo_q (d := 6) rfl rfl ev_move) ?_
            refine awpl_op rfl (opTo_q (d := 7) rfl rfl (ev_llen (f := cS) rfl ty_s_string.u)) ?_
            refine awpl_op rfl (opTo_q (d := 8) rfl rfl ev_move) ?_
            refine awpl_nil ?_
            refine kthen_normal ?_
            refine awp_block ?_
            obtain ⟨b20, hl, hr⟩ := bind_some hr
            refine awp_loop (alias_Loops_l3 v11) (fun s19 => [(1, .ptr 2005 0), (2, .ptr 6 0), (6, .l cS v11.To), (7, .i ((v11.To.length : Int))), (8, .i s19.1)]) (fun s19 => [(5499999, .sus g0.w.heap.size ds54), (5400000, .hold (.fn (.yield b52) [] []) (T54.getD 0 undef)), (5400004, .hold (.mp 1006) (T54.getD 4 undef)), (5400006, .hold (.ptr 6 0) (T54.getD 6 undef)), (5400007, .hold (.fn (.func 62) [] [.ptr 2005 0, .ptr 6 0]) (T54.getD 7 undef)), (2006, .row 9 false 1 (List.map cS s19.2.1)), (6, .cells [.hs 2006 0]), (2005, .cells [.mp 1011]), (1011, .mapo false (menc keyS cB s19.2.2)), (1006, .mapo false (menc keyS (cL cS) b14)), (5299999, .sus g0.w.heap.size ds52), (5299998, .lp b52 L52), (5200000, .hold (.l TAlias.pc a0) (T52.getD 0 undef)), (5200003, .hold (.ptr 3 0) (T52.getD 3 undef)), (5200005, .hold (.ptr 5 0) (T52.getD 5 undef)), (5200007, .hold (.ptr 7 0) (T52.getD 7 undef)), (5200014, .hold (.l TAlias.pc a0) (T52.getD 14 undef)), (5200015, .hold (.i ((a0.length : Int))) (T52.getD 15 undef)), (5200016, .hold (.i s6.1) (T52.getD 16 undef)), (5200023, .hold (.fn (.func 61) [] [.ptr 2 0, .ptr 1003 0]) (T52.getD 23 undef)), (1003, .cells [.l cS v11.To]), (2, .cells [.l TAlias.pc a0]), (7, .cells [.s v11.Address, .l cS v11.To]), (1005, .row 9 false 1 (List.map cS s6.2)), (5, .cells [.hs 1005 0]), (3, .cells [.i 0, .i 0])]) (fun b20 => At (.exit 0) [] [(5499999, .sus g0.w.heap.size ds54), (5400000, .hold (.fn (.yield b52) [] []) (T54.getD 0 undef)), (5400004, .hold (.mp 1006) (T54.getD 4 undef)), (5400006, .hold (.ptr 6 0) (T54.getD 6 undef)), (5400007, .hold (.fn (.func 62) [] [.ptr 2005 0, .ptr 6 0]) (T54.getD 7 undef)), (2006, .row 9 false 1 (List.map cS b20.1)), (6, .cells [.hs 2006 0]), (2005, .cells [.mp 1011]), (1011, .mapo false (menc keyS cB b20.2)), (1006, .mapo false (menc keyS (cL cS) b14)), (5299999, .sus g0.w.heap.size ds52), (5299998, .lp b52 L52), (5200000, .hold (.l TAlias.pc a0) (T52.getD 0 undef)), (5200003, .hold (.ptr 3 0) (T52.getD 3 undef)), (5200005, .hold (.ptr 5 0) (T52.getD 5 undef)), (5200007, .hold (.ptr 7 0) (T52.getD 7 undef)), (5200014, .hold (.l TAlias.pc a0) (T52.getD 14 undef)), (5200015, .hold (.i ((a0.length : Int))) (T52.getD 15 undef)), (5200016, .hold (.i s6.1) (T52.getD 16 undef)), (5200023, .hold (.fn (.func 61) [] [.ptr 2 0, .ptr 1003 0]) (T52.getD 23 undef)), (1003, .cells [.l cS v11.To]), (2, .cells [.l TAlias.pc a0]), (7, .cells [.s v11.Address, .l cS v11.To]), (1005, .row 9 false 1 (List.map cS s6.2)), (5, .cells [.hs 1005 0]), (3, .cells [.i 0, .i 0])]) ?_ ((0, ([] : List Str), ([] : List (Str × Bool)))) hl (frLe_cons rfl (frLe_cons rfl (frLe_cons rfl (frLe_cons rfl (frLe_cons rfl frLe_nil))))) (stoLe_cons rfl (stoLe_cons rfl (stoLe_cons rfl (stoLe_cons rfl (stoLe_cons rfl (stoLe_cons rfl (stoLe_cons rfl (stoLe_cons rfl (stoLe_cons rfl (stoLe_cons rfl (stoLe_cons rfl (stoLe_cons rfl (stoLe_cons rfl (stoLe_cons rfl (stoLe_cons rfl (stoLe_cons rfl (stoLe_cons rfl (stoLe_cons rfl (stoLe_cons rfl (stoLe_cons rfl (stoLe_cons rfl (stoLe_cons rfl (stoLe_cons rfl (stoLe_cons rfl (stoLe_cons rfl (stoLe_cons rfl stoLe_nil)))))))))))))))))))))))))) ?_
            · intro s19 x21 hr
              unfold alias_Loops_l3 at hr
              refine awp_seq ?_
              refine awp_region ?_
              refine awpl_op rfl (opTo_q (d := 9) rfl rfl (ev_lss rfl rfl)) ?_
              refine awpl_nil ?_
              refine kthen_normal ?_
              refine awp_seq ?_
              refine awp_cond rfl (fun c22 => ?_) (fun c22 => ?_)
              · replace hr := cond_t c22 hr
                refine awp_skip ?_
                refine kthen_normal ?_
                obtain ⟨j23, hx, hy⟩ := bind_some hr
                refine awp_join (fun j23 => [(1, .ptr 2005 0), (2, .ptr 6 0), (6, .l cS v11.To), (7, .i ((v11.To.length : Int))), (8, .i s19.1)]) (fun j23 => [(5499999, .sus g0.w.heap.size ds54), (5400000, .hold (.fn (.yield b52) [] []) (T54.getD 0 undef)), (5400004, .hold (.mp 1006) (T54.getD 4 undef)), (5400006, .hold (.ptr 6 0) (T54.getD 6 undef)), (5400007, .hold (.fn (.func 62) [] [.ptr 2005 0, .ptr 6 0]) (T54.getD 7 undef)), (2006, .row 9 false 1 (List.map cS j23.1)), (6, .cells [.hs 2006 0]), (2005, .cells [.mp 1011]), (1011, .mapo false (menc keyS cB j23.2)), (1006, .mapo false (menc keyS (cL cS) b14)), (5299999, .sus g0.w.heap.size ds52), (5299998, .lp b52 L52), (5200000, .hold (.l TAlias.pc a0) (T52.getD 0 undef)), (5200003, .hold (.ptr 3 0) (T52.getD 3 undef)), (5200005, .hold (.ptr 5 0) (T52.getD 5 undef)), (5200007, .hold (.ptr 7 0) (T52.getD 7 undef)), (5200014, .hold (.l TAlias.pc a0) (T52.getD 14 undef)), (5200015, .hold (.i ((a0.length : Int))) (T52.getD 15 undef)), (5200016, .hold (.i s6.1) (T52.getD 16 undef)), (5200023, .hold (.fn (.func 61) [] [.ptr 2 0, .ptr 1003 0]) (T52.getD 23 undef)), (1003, .cells [.l cS v11.To]), (2, .cells [.l TAlias.pc a0]), (7, .cells [.s v11.Address, .l cS v11.To]), (1005, .row 9 false 1 (List.map cS s6.2)), (5, .cells [.hs 1005 0]), (3, .cells [.i 0, .i 0])]) (fun z => j23 = z) ?_ ?_
                · have hr := hx
                  clear hx hy
                  refine awp_block ?_
                  refine awp_seq ?_
                  refine awp_region ?_
                  obtain ⟨v24, h25, hr⟩ := bind_some hr
                  refine awpl_op rfl (opTo_q (d := 10) rfl rfl (ev_idx (f := cS) rfl rfl ty_s_string ty_string rfl h25)) ?_
                  refine awpl_op rfl (opTo_q (d := 11) rfl rfl (ev_load_ep rfl ty_string rfl rfl)) ?_
                  refine awpl_op rfl (opTo_q (d := 5) rfl rfl ev_assign) ?_
                  refine awpl_nil ?_
                  refine kthen_normal ?_
                  refine awp_seq ?_
                  refine awp_region ?_
                  refine awpl_op rfl (opTo_q (d := 12) rfl rfl (ev_load rfl rfl ty_map_string_bool rfl rfl)) ?_
                  refine awpl_op rfl (opTo_q (d := 13) rfl rfl ev_move) ?_
                  refine awpl_op rfl (opTo_q (d := 14) rfl rfl (ev_lookup (KK := keyS) (F := cB) (es := s19.2.2) (k := v24) (z := false) rfl rfl rfl ty_map_string_bool.u ty_string.u ty_bool rfl)) ?_
                  refine awpl_op rfl (opTo_q (d := 15) rfl rfl (ev_not rfl)) ?_
                  refine awpl_nil ?_
                  refine kthen_normal ?_
                  refine awp_cond rfl (fun c26 => ?_) (fun c26 => ?_)
                  · replace hr := cond_t c26 hr
                    refine awp_seq ?_
                    refine awp_region ?_
                    refine awpl_op rfl (opTo_q (d := 16) rfl rfl (ev_load rfl rfl ty_map_string_bool rfl rfl)) ?_
                    refine awpl_op rfl (opTo_q (d := 17) rfl rfl ev_move) ?_
                    refine awpl_op rfl (opTo_mapUpdate (KK := keyS) (F := cB) (es := s19.2.2) (k := v24) (v := true) rfl rfl rfl rfl rfl ty_map_string_bool.u ty_string.u) ?_
                    refine awpl_nil ?_
                    refine kthen_normal ?_
                    refine awp_region ?_
                    refine awpl_op rfl (opTo_q (d := 18) rfl rfl (ev_load rfl rfl ty_s_string rfl rfl)) ?_
                    refine awpl_op rfl (opTo_q (d := 19) rfl rfl ev_move) ?_
                    refine awpl_op rfl (opTo_g (d := 20) rfl rfl (opG_lit (F := cS) (l := ([v24] : List Str)) ty_s_string ty_string rfl (fun _ => rfl) rfl rfl)) ?_
                    obtain ⟨v27, h28, hr⟩ := bind_some hr
                    refine awpl_op rfl (opTo_append (k := 21) (F := cS) (l := s19.2.1) (xs := (([v24] : List Str))) (lim := 8796093022208) rfl rfl rfl rfl ty_s_string ty_string rfl rfl (fun _ => rfl) rfl h28) ?_
                    refine awpl_op rfl (opTo_store rfl rfl rfl ty_s_string rfl rfl) ?_
                    refine awpl_nil ?_
                    refine kblock_normal ?_
                    cases hr
                    exact joinK_normal _ rfl (frLe_cons rfl (frLe_cons rfl (frLe_cons rfl (frLe_cons rfl (frLe_cons rfl frLe_nil))))) (stoLe_cons rfl (stoLe_cons rfl (stoLe_cons rfl (stoLe_cons rfl (stoLe_cons rfl (stoLe_cons rfl (stoLe_cons rfl (stoLe_cons rfl (stoLe_cons rfl (stoLe_cons rfl (stoLe_cons rfl (stoLe_cons rfl (stoLe_cons rfl (stoLe_cons rfl (stoLe_cons rfl (stoLe_cons rfl (stoLe_cons rfl (stoLe_cons rfl (stoLe_cons rfl (stoLe_cons rfl (stoLe_cons rfl (stoLe_cons rfl (stoLe_cons rfl (stoLe_cons rfl (stoLe_cons rfl (stoLe_cons rfl stoLe_nil))))))))))))))))))))))))))
                  · replace hr := cond_f c26 hr
                    refine awp_skip ?_
                    refine kblock_normal ?_
                    cases hr
                    exact joinK_normal _ rfl (frLe_cons rfl (frLe_cons rfl (frLe_cons rfl (frLe_cons rfl (frLe_cons rfl frLe_nil))))) (stoLe_cons rfl (stoLe_cons rfl (stoLe_cons rfl (stoLe_cons rfl (stoLe_cons rfl (stoLe_cons rfl (stoLe_cons rfl (stoLe_cons rfl (stoLe_cons rfl (stoLe_cons rfl (stoLe_cons rfl (stoLe_cons rfl (stoLe_cons rfl (stoLe_cons rfl (stoLe_cons rfl (stoLe_cons rfl (stoLe_cons rfl (stoLe_cons rfl (stoLe_cons rfl (stoLe_cons rfl (stoLe_cons rfl (stoLe_cons rfl (stoLe_cons rfl (stoLe_cons rfl (stoLe_cons rfl (stoLe_cons rfl stoLe_nil))))))))))))))))))))))))))
                · rintro _ rfl
                  have hr := hy
                  clear hx hy
                  refine awp_region ?_
                  refine awpl_op rfl (opTo_q (d := 22) rfl rfl (ev_add rfl rfl)) ?_
                  refine awpl_op rfl (opTo_q (d := 8) rfl rfl ev_move) ?_
                  refine awpl_nil ?_
                  cases hr
                  exact ⟨rfl, (frLe_cons rfl (frLe_cons rfl (frLe_cons rfl (frLe_cons rfl (frLe_cons rfl frLe_nil))))), (stoLe_cons rfl (stoLe_cons rfl (stoLe_cons rfl (stoLe_cons rfl (stoLe_cons rfl (stoLe_cons rfl (stoLe_cons rfl (stoLe_cons rfl (stoLe_cons rfl (stoLe_cons rfl (stoLe_cons rfl (stoLe_cons rfl (stoLe_cons rfl (stoLe_cons rfl (stoLe_cons rfl (stoLe_cons rfl (stoLe_cons rfl (stoLe_cons rfl (stoLe_cons rfl (stoLe_cons rfl (stoLe_cons rfl (stoLe_cons rfl (stoLe_cons rfl (stoLe_cons rfl (stoLe_cons rfl (stoLe_cons rfl stoLe_nil))))))))))))))))))))))))))⟩
              · replace hr := cond_f c22 hr
                refine awp_exit ?_
                refine kthen_exit ?_
                cases hr
                exact ⟨by simp, rfl, frLe_nil, (stoLe_cons rfl (stoLe_cons rfl (stoLe_cons rfl (stoLe_cons rfl (stoLe_cons rfl (stoLe_cons rfl (stoLe_cons rfl (stoLe_cons rfl (stoLe_cons rfl (stoLe_cons rfl (stoLe_cons rfl (stoLe_cons rfl (stoLe_cons rfl (stoLe_cons rfl (stoLe_cons rfl (stoLe_cons rfl (stoLe_cons rfl (stoLe_cons rfl (stoLe_cons rfl (stoLe_cons rfl (stoLe_cons rfl (stoLe_cons rfl (stoLe_cons rfl (stoLe_cons rfl (stoLe_cons rfl (stoLe_cons rfl stoLe_nil))))))))))))))))))))))))))⟩
            · intro e fr2 st2 hq
              obtain ⟨rfl, hf, hs⟩ := hq
              refine kblock_exit ?_
              refine inlK (cs := []) (fr'' := [(0, .fn (.yield b52) [] []), (4, .mp 1006), (6, .ptr 6 0), (7, .fn (.func 62) [] [.ptr 2005 0, .ptr 6 0])]) (σ'' := [(2006, .row 9 false 1 (List.map cS b20.1)), (6, .cells [.hs 2006 0]), (2005, .cells [.mp 1011]), (1011, .mapo false (menc keyS cB b20.2)), (1006, .mapo false (menc keyS (cL cS) b14)), (5299999, .sus g0.w.heap.size ds52), (5299998, .lp b52 L52), (5200000, .hold (.l TAlias.pc a0) (T52.getD 0 undef)), (5200003, .hold (.ptr 3 0) (T52.getD 3 undef)), (5200005, .hold (.ptr 5 0) (T52.getD 5 undef)), (5200007, .hold (.ptr 7 0) (T52.getD 7 undef)), (5200014, .hold (.l TAlias.pc a0) (T52.getD 14 undef)), (5200015, .hold (.i ((a0.length : Int))) (T52.getD 15 undef)), (5200016, .hold (.i s6.1) (T52.getD 16 undef)), (5200023, .hold (.fn (.func 61) [] [.ptr 2 0, .ptr 1003 0]) (T52.getD 23 undef)), (1003, .cells [.l cS v11.To]), (2, .cells [.l TAlias.pc a0]), (7, .cells [.s v11.Address, .l cS v11.To]), (1005, .row 9 false 1 (List.map cS s6.2)), (5, .cells [.hs 1005 0]), (3, .cells [.i 0, .i 0])]) (.inr rfl) hf hs .nil (.cons rfl (.cons rfl (.cons rfl (.cons rfl .nil)))) rfl (stoLe_cons rfl (stoLe_cons rfl (stoLe_cons rfl (stoLe_cons rfl (stoLe_cons rfl (stoLe_cons rfl (stoLe_cons rfl (stoLe_cons rfl (stoLe_cons rfl (stoLe_cons rfl (stoLe_cons rfl (stoLe_cons rfl (stoLe_cons rfl (stoLe_cons rfl (stoLe_cons rfl (stoLe_cons rfl (stoLe_cons rfl (stoLe_cons rfl (stoLe_cons rfl (stoLe_cons rfl (stoLe_cons rfl stoLe_nil))))))))))))))))))))) ?_
              refine awpl_nil ?_
              refine kthen_normal ?_
              refine awp_block ?_
              obtain ⟨o32, hl, hr⟩ := bind_some hr
              refine awp_loop (alias_Loops_l4 s6 v11 b14) (fun s29 => [(0, .fn (.yield b52) [] []), (4, .mp 1006), (6, .ptr 6 0), (7, .fn (.func 62) [] [.ptr 2005 0, .ptr 6 0])]) (fun s29 => [(2006, .row 9 false 1 (List.map cS s29.1)), (6, .cells [.hs 2006 0]), (2005, .cells [.mp 1011]), (1011, .mapo false (menc keyS cB s29.2)), (1006, .mapo false (menc keyS (cL cS) b14)), (5299999, .sus g0.w.heap.size ds52), (5299998, .lp b52 L52), (5200000, .hold (.l TAlias.pc a0) (T52.getD 0 undef)), (5200003, .hold (.ptr 3 0) (T52.getD 3 undef)), (5200005, .hold (.ptr 5 0) (T52.getD 5 undef)), (5200007, .hold (.ptr 7 0) (T52.getD 7 undef)), (5200014, .hold (.l TAlias.pc a0) (T52.getD 14 undef)), (5200015, .hold (.i ((a0.length : Int))) (T52.getD 15 undef)), (5200016, .hold (.i s6.1) (T52.getD 16 undef)), (5200023, .hold (.fn (.func 61) [] [.ptr 2 0, .ptr 1003 0]) (T52.getD 23 undef)), (1003, .cells [.l cS v11.To]), (2, .cells [.l TAlias.pc a0]), (7, .cells [.s v11.Address, .l cS v11.To]), (1005, .row 9 false 1 (List.map cS s6.2)), (5, .cells [.hs 1005 0]), (3, .cells [.i 0, .i 0])]) (fun o => match o with | .inl b30 => At (.exit 0) [] [(5299999, .sus g0.w.heap.size ds52), (5299998, .lp b52 L52), (5200000, .hold (.l TAlias.pc a0) (T52.getD 0 undef)), (5200003, .hold (.ptr 3 0) (T52.getD 3 undef)), (5200005, .hold (.ptr 5 0) (T52.getD 5 undef)), (5200007, .hold (.ptr 7 0) (T52.getD 7 undef)), (5200014, .hold (.l TAlias.pc a0) (T52.getD 14 undef)), (5200015, .hold (.i ((a0.length : Int))) (T52.getD 15 undef)), (5200016, .hold (.i s6.1) (T52.getD 16 undef)), (5200023, .hold (.fn (.func 61) [] [.ptr 2 0, .ptr 1003 0]) (T52.getD 23 undef)), (1003, .cells [.l cS v11.To]), (2, .cells [.l TAlias.pc a0]), (7, .cells [.s v11.Address, .l cS v11.To]), (1005, .row 9 false 1 (List.map cS s6.2)), (5, .cells [.hs 1005 0]), (3, .cells [.i 0, .i 0])] | .inr b31 => At .ret [] [(5299999, .sus g0.w.heap.size ds52), (5299998, .lp b52 ((stop L52 (.exit 2)))), (5200000, .hold (.l TAlias.pc a0) (T52.getD 0 undef)), (5200003, .hold (.ptr 3 0) (T52.getD 3 undef)), (5200005, .hold (.ptr 5 0) (T52.getD 5 undef)), (5200007, .hold (.ptr 7 0) (T52.getD 7 undef)), (5200014, .hold (.l TAlias.pc a0) (T52.getD 14 undef)), (5200015, .hold (.i ((a0.length : Int))) (T52.getD 15 undef)), (5200016, .hold (.i s6.1) (T52.getD 16 undef)), (5200023, .hold (.fn (.func 61) [] [.ptr 2 0, .ptr 1003 0]) (T52.getD 23 undef)), (1003, .cells [.l cS v11.To]), (2, .cells [.l TAlias.pc a0]), (7, .cells [.s v11.Address, .l cS v11.To]), (1005, .row 9 false 1 (List.map cS b31)), (5, .cells [.hs 1005 0]), (3, .cells [.i 0, .i 0])]) ?_ ((b20.1, b20.2)) hl (frLe_cons rfl (frLe_cons rfl (frLe_cons rfl (frLe_cons rfl frLe_nil)))) (stoLe_cons rfl (stoLe_cons rfl (stoLe_cons rfl (stoLe_cons rfl (stoLe_cons rfl (stoLe_cons rfl (stoLe_cons rfl (stoLe_cons rfl (stoLe_cons rfl (stoLe_cons rfl (stoLe_cons rfl (stoLe_cons rfl (stoLe_cons rfl (stoLe_cons rfl (stoLe_cons rfl (stoLe_cons rfl (stoLe_cons rfl (stoLe_cons rfl (stoLe_cons rfl (stoLe_cons rfl (stoLe_cons rfl stoLe_nil))))))))))))))))))))) ?_
              · intro s29 x33 hr
                unfold alias_Loops_l4 at hr
                refine awp_seq ?_
                refine awp_seq ?_
                refine awp_region ?_
                refine awpl_op rfl (opTo_q (d := 16) rfl rfl (ev_load rfl rfl ty_s_string rfl rfl)) ?_
                refine awpl_op rfl (opTo_q (d := 17) rfl rfl (ev_hlen (F := cS) rfl rfl ty_s_string.u)) ?_
                refine awpl_op rfl (opTo_q (d := 18) rfl rfl (ev_gtr rfl rfl)) ?_
                refine awpl_nil ?_
                refine kthen_normal ?_
                refine awp_cond rfl (fun c34 => ?_) (fun c34 => ?_)
                · replace hr := cond_t c34 hr
                  refine awp_skip ?_
                  refine kthen_normal ?_
                  refine awp_block ?_
                  refine awp_seq ?_
                  refine awp_region ?_
                  refine awpl_op rfl (opTo_q (d := 19) rfl rfl (ev_load rfl rfl ty_s_string rfl rfl)) ?_
                  refine awpl_pub (d := 19) (F := cS) (l := s29.1) rfl rfl ?_
                  obtain ⟨v35, h36, hr⟩ := bind_some hr
                  refine awpl_op rfl (opTo_q (d := 20) rfl rfl (ev_idx (f := cS) rfl rfl ty_s_string ty_string rfl h36)) ?_
                  refine awpl_op rfl (opTo_q (d := 21) rfl rfl (ev_load_ep rfl ty_string rfl rfl)) ?_
                  refine awpl_op rfl (opTo_q (d := 8) rfl rfl ev_assign) ?_
                  refine awpl_nil ?_
                  refine kthen_normal ?_
                  refine awp_seq ?_
                  refine awp_region ?_
                  refine awpl_op rfl (opTo_q (d := 22) rfl rfl (ev_load rfl rfl ty_s_string rfl rfl)) ?_
                  obtain ⟨v37, h38, hr⟩ := bind_some hr
                  refine awpl_op rfl (opTo_hcutL (k := 23) (F := cS) (l := s29.1) rfl rfl rfl rfl ty_s_string ty_string h38) ?_
                  refine awpl_op rfl (opTo_store rfl rfl rfl ty_s_string rfl rfl) ?_
                  refine awpl_nil ?_
                  refine kthen_normal ?_
                  refine awp_seq ?_
                  refine awp_seq ?_
                  refine awp_region ?_
                  refine awpl_op rfl (opTo_q (d := 24) rfl rfl ev_move) ?_
                  refine awpl_op rfl (opTo_q (d := 25) rfl rfl ev_move) ?_
                  refine awpl_yieldf (ps := [24]) (args := [.s v35]) 5200000 5900000 5299998 5999999 [(0, .l TAlias.pc a0), (3, .ptr 3 0), (5, .ptr 5 0), (7, .ptr 7 0), (14, .l TAlias.pc a0), (15, .i ((a0.length : Int))), (16, .i s6.1), (23, .fn (.func 61) [] [.ptr 2 0, .ptr 1003 0])] [(0, .fn (.yield b52) [] []), (4, .mp 1006), (6, .ptr 6 0), (7, .fn (.func 62) [] [.ptr 2005 0, .ptr 6 0]), (8, .s v35)] (wanted_plain rfl) rfl rfl hLs52 hLp52 hLt52 hLq52 hLa52 hLb52 hT52 rfl rfl rfl rfl (.cons rfl (.cons rfl (.cons rfl (.cons rfl (.cons rfl .nil))))) (.cons rfl (.cons rfl (.cons rfl (.cons rfl (.cons rfl (.cons rfl (.cons rfl (.cons rfl .nil)))))))) fun T59 ds59 hT59 => ?_
                  refine awp_region ?_
                  refine awpl_op rfl (opTo_q (d := 8) rfl rfl ev_assign) ?_
                  refine awpl_nil ?_
                  refine asgK frLe_refl stoLe_refl rfl ?_
                  refine awp_block ?_
                  refine awp_seq ?_
                  refine awp_region ?_
                  refine awpl_op rfl (opTo_q (d := 25) rfl rfl ev_move) ?_
                  refine awpl_op rfl (opTo_q (d := 26) rfl rfl (ev_fieldAddr rfl ty_api_Alias.u rfl ty_string rfl)) ?_
                  refine awpl_op rfl (opTo_q (d := 27) rfl rfl (ev_load rfl rfl ty_string rfl rfl)) ?_
                  refine awpl_op rfl (opTo_q (d := 28) rfl rfl (ev_seql (a := v35) (b := v11.Address) rfl rfl)) ?_
                  refine awpl_nil ?_
                  refine kthen_normal ?_
                  refine awp_cond rfl (fun c39 => ?_) (fun c39 => ?_)
                  · replace hr := cond_t c39 hr
                    refine awp_seq ?_
                    refine awp_region ?_
                    refine awpl_op rfl (opTo_q (d := 29) rfl rfl (ev_load rfl rfl ty_s_string rfl rfl)) ?_
                    refine awpl_op rfl (opTo_q (d := 30) rfl rfl ev_move) ?_
                    refine awpl_op rfl (opTo_g (d := 31) rfl rfl (opG_lit (F := cS) (l := ([v35] : List Str)) ty_s_string ty_string rfl (fun _ => rfl) rfl rfl)) ?_
                    obtain ⟨v40, h41, hr⟩ := bind_some hr
                    refine awpl_op rfl (opTo_append (k := 32) (F := cS) (l := s6.2) (xs := (([v35] : List Str))) (lim := 8796093022208) rfl rfl rfl rfl ty_s_string ty_string rfl rfl (fun _ => rfl) rfl h41) ?_
                    refine awpl_op rfl (opTo_store rfl rfl rfl ty_s_string rfl rfl) ?_
                    refine awpl_nil ?_
                    refine kthen_normal ?_
                    refine awp_exit ?_
                    refine kblock_other rfl ?_
                    refine rndK (fr'' := [(0, .fn (.yield b52) [] []), (4, .mp 1006), (6, .ptr 6 0), (7, .fn (.func 62) [] [.ptr 2005 0, .ptr 6 0]), (8, .s v35)]) (σ'' := [(2006, .row 9 false 1 (List.map cS v37)), (6, .cells [.hs 2006 0]), (2005, .cells [.mp 1011]), (1011, .mapo false (menc keyS cB s29.2)), (1006, .mapo false (menc keyS (cL cS) b14)), (5299999, .sus g0.w.heap.size ds52), (5299998, .lp b52 ((stop L52 (.exit 2)))), (5200000, .hold (.l TAlias.pc a0) (T52.getD 0 undef)), (5200003, .hold (.ptr 3 0) (T52.getD 3 undef)), (5200005, .hold (.ptr 5 0) (T52.getD 5 undef)), (5200007, .hold (.ptr 7 0) (T52.getD 7 undef)), (5200014, .hold (.l TAlias.pc a0) (T52.getD 14 undef)), (5200015, .hold (.i ((a0.length : Int))) (T52.getD 15 undef)), (5200016, .hold (.i s6.1) (T52.getD 16 undef)), (5200023, .hold (.fn (.func 61) [] [.ptr 2 0, .ptr 1003 0]) (T52.getD 23 undef)), (1003, .cells [.l cS v11.To]), (2, .cells [.l TAlias.pc a0]), (7, .cells [.s v11.Address, .l cS v11.To]), (1005, .row 9 false 1 (List.map cS v40)), (5, .cells [.hs 1005 0]), (3, .cells [.i 0, .i 0])]) (.exit 2) stoLe_refl rfl (.cons rfl (.cons rfl (.cons rfl (.cons rfl (.cons rfl .nil))))) rfl (stoLe_cons rfl (stoLe_cons rfl (stoLe_cons rfl (stoLe_cons rfl (stoLe_cons rfl (stoLe_cons rfl (stoLe_cons rfl (stoLe_cons rfl (stoLe_cons rfl (stoLe_cons rfl (stoLe_cons rfl (stoLe_cons rfl (stoLe_cons rfl (stoLe_cons rfl (stoLe_cons rfl (stoLe_cons rfl (stoLe_cons rfl (stoLe_cons rfl (stoLe_cons rfl (stoLe_cons rfl (stoLe_cons rfl stoLe_nil))))))))))))))))))))) ?_
                    refine awpl_op rfl (opTo_q (d := 27) rfl rfl (ev_not rfl)) ?_
                    refine awpl_nil ?_
                    refine kthen_normal ?_
                    refine awp_cond (t := true) rfl (fun _ => ?_) (fun h => nomatch h)
                    refine awp_ret ?_
                    refine kthen_ret ?_
                    refine kblock_ret ?_
                    cases hr
                    exact ⟨by simp, rfl, frLe_nil, (stoLe_cons rfl (stoLe_cons rfl (stoLe_cons rfl (stoLe_cons rfl (stoLe_cons rfl (stoLe_cons rfl (stoLe_cons rfl (stoLe_cons rfl (stoLe_cons rfl (stoLe_cons rfl (stoLe_cons rfl (stoLe_cons rfl (stoLe_cons rfl (stoLe_cons rfl (stoLe_cons rfl (stoLe_cons rfl stoLe_nil))))))))))))))))⟩
                  · replace hr := cond_f c39 hr
                    refine awp_skip ?_
                    refine kblock_normal ?_
                    refine rndK (fr'' := [(0, .fn (.yield b52) [] []), (4, .mp 1006), (6, .ptr 6 0), (7, .fn (.func 62) [] [.ptr 2005 0, .ptr 6 0]), (8, .s v35)]) (σ'' := [(2006, .row 9 false 1 (List.map cS v37)), (6, .cells [.hs 2006 0]), (2005, .cells [.mp 1011]), (1011, .mapo false (menc keyS cB s29.2)), (1006, .mapo false (menc keyS (cL cS) b14)), (5299999, .sus g0.w.heap.size ds52), (5299998, .lp b52 L52), (5200000, .hold (.l TAlias.pc a0) (T52.getD 0 undef)), (5200003, .hold (.ptr 3 0) (T52.getD 3 undef)), (5200005, .hold (.ptr 5 0) (T52.getD 5 undef)), (5200007, .hold (.ptr 7 0) (T52.getD 7 undef)), (5200014, .hold (.l TAlias.pc a0) (T52.getD 14 undef)), (5200015, .hold (.i ((a0.length : Int))) (T52.getD 15 undef)), (5200016, .hold (.i s6.1) (T52.getD 16 undef)), (5200023, .hold (.fn (.func 61) [] [.ptr 2 0, .ptr 1003 0]) (T52.getD 23 undef)), (1003, .cells [.l cS v11.To]), (2, .cells [.l TAlias.pc a0]), (7, .cells [.s v11.Address, .l cS v11.To]), (1005, .row 9 false 1 (List.map cS s6.2)), (5, .cells [.hs 1005 0]), (3, .cells [.i 0, .i 0])]) .off stoLe_refl rfl (.cons rfl (.cons rfl (.cons rfl (.cons rfl (.cons rfl .nil))))) rfl (stoLe_cons rfl (stoLe_cons rfl (stoLe_cons rfl (stoLe_cons rfl (stoLe_cons rfl (stoLe_cons rfl (stoLe_cons rfl (stoLe_cons rfl (stoLe_cons rfl (stoLe_cons rfl (stoLe_cons rfl (stoLe_cons rfl (stoLe_cons rfl (stoLe_cons rfl (stoLe_cons rfl (stoLe_cons rfl (stoLe_cons rfl (stoLe_cons rfl (stoLe_cons rfl (stoLe_cons rfl (stoLe_cons rfl stoLe_nil))))))))))))))))))))) ?_
                    refine awpl_op rfl (opTo_q (d := 27) rfl rfl (ev_not rfl)) ?_
                    refine awpl_nil ?_
                    refine kthen_normal ?_
                    refine awp_cond (t := false) rfl (fun h => nomatch h) (fun _ => ?_)
                    refine awp_skip ?_
                    refine kthen_normal ?_
                    refine awp_region ?_
                    refine awpl_op rfl (opTo_q (d := 28) rfl rfl ev_move) ?_
                    refine awpl_op rfl (opTo_q (d := 29) rfl rfl ev_move) ?_
                    refine awpl_op rfl (opTo_q (d := 30) rfl rfl ev_move) ?_
                    refine awpl_op rfl (opTo_q (d := 31) rfl rfl (ev_lookup (KK := keyS) (F := (cL cS)) (es := b14) (k := v35) (z := (([] : List Str))) rfl rfl rfl ty_map_string_s_string.u ty_string.u ty_s_string rfl)) ?_
                    refine awpl_inl (fn := Try.f62) (args := [.l cS (((mget b14 v35).getD (([] : List Str)))), .ptr 2005 0, .ptr 6 0]) 6000000 6099999 [(0, .fn (.yield b52) [] []), (4, .mp 1006), (6, .ptr 6 0), (7, .fn (.func 62) [] [.ptr 2005 0, .ptr 6 0])] (wanted_plain rfl) rfl ⟨Try.func62, rfl, by kernel_rfl⟩ rfl rfl (.cons rfl (.cons rfl (.cons rfl (.cons rfl .nil)))) fun T60 ds60 hT60 => ?_
                    refine awp_seq ?_
                    refine awp_region ?_
                    refine awpl_op rfl (opTo_q (d := 6) rfl rfl ev_move) ?_
                    refine awpl_op rfl (opTo_q (d := 7) rfl rfl (ev_llen (f := cS) rfl ty_s_string.u)) ?_
                    refine awpl_op rfl (opTo_q (d := 8) rfl rfl ev_move) ?_
                    refine awpl_nil ?_
                    refine kthen_normal ?_
                    refine awp_block ?_
                    obtain ⟨b43, hl, hr⟩ := bind_some hr
                    refine awp_loop (alias_Loops_l5 b14 v35) (fun s42 => [(1, .ptr 2005 0), (2, .ptr 6 0), (6, .l cS (((mget b14 v35).getD (([] : List Str))))), (7, .i (((((mget b14 v35).getD (([] : List Str)))).length : Int))), (8, .i s42.1)]) (fun s42 => [(6099999, .sus g0.w.heap.size ds60), (6000000, .hold (.fn (.yield b52) [] []) (T60.getD 0 undef)), (6000004, .hold (.mp 1006) (T60.getD 4 undef)), (6000006, .hold (.ptr 6 0) (T60.getD 6 undef)), (6000007, .hold (.fn (.func 62) [] [.ptr 2005 0, .ptr 6 0]) (T60.getD 7 undef)), (2006, .row 9 false 1 (List.map cS s42.2.1)), (6, .cells [.hs 2006 0]), (2005, .cells [.mp 1011]), (1011, .mapo false (menc keyS cB s42.2.2)), (1006, .mapo false (menc keyS (cL cS) b14)), (5299999, .sus g0.w.heap.size ds52), (5299998, .lp b52 L52), (5200000, .hold (.l TAlias.pc a0) (T52.getD 0 undef)), (5200003, .hold (.ptr 3 0) (T52.getD 3 undef)), (5200005, .hold (.ptr 5 0) (T52.getD 5 undef)), (5200007, .hold (.ptr 7 0) (T52.getD 7 undef)), (5200014, .hold (.l TAlias.pc a0) (T52.getD 14 undef)), (5200015, .hold (.i ((a0.length : Int))) (T52.getD 15 undef)), (5200016, .hold (.i s6.1) (T52.getD 16 undef)), (5200023, .hold (.fn (.func 61) [] [.ptr 2 0, .ptr 1003 0]) (T52.getD 23 undef)), (1003, .cells [.l cS v11.To]), (2, .cells [.l TAlias.pc a0]), (7, .cells [.s v11.Address, .l cS v11.To]), (1005, .row 9 false 1 (List.map cS s6.2)), (5, .cells [.hs 1005 0]), (3, .cells [.i 0, .i 0])]) (fun b43 => At (.exit 0) [] [(6099999, .sus g0.w.heap.size ds60), (6000000, .hold (.fn (.yield b52) [] []) (T60.getD 0 undef)), (6000004, .hold (.mp 1006) (T60.getD 4 undef)), (6000006, .hold (.ptr 6 0) (T60.getD 6 undef)), (6000007, .hold (.fn (.func 62) [] [.ptr 2005 0, .ptr 6 0]) (T60.getD 7 undef)), (2006, .row 9 false 1 (List.map cS b43.1)), (6, .cells [.hs 2006 0]), (2005, .cells [.mp 1011]), (1011, .mapo false (menc keyS cB b43.2)), (1006, .mapo false (menc keyS (cL cS) b14)), (5299999, .sus g0.w.heap.size ds52), (5299998, .lp b52 L52), (5200000, .hold (.l TAlias.pc a0) (T52.getD 0 undef)), (5200003, .hold (.ptr 3 0) (T52.getD 3 undef)), (5200005, .hold (.ptr 5 0) (T52.getD 5 undef)), (5200007, .hold (.ptr 7 0) (T52.getD 7 undef)), (5200014, .hold (.l TAlias.pc a0) (T52.getD 14 undef)), (5200015, .hold (.i ((a0.length : Int))) (T52.getD 15 undef)), (5200016, .hold (.i s6.1) (T52.getD 16 undef)), (5200023, .hold (.fn (.func 61) [] [.ptr 2 0, .ptr 1003 0]) (T52.getD 23 undef)), (1003, .cells [.l cS v11.To]), (2, .cells [.l TAlias.pc a0]), (7, .cells [.s v11.Address, .l cS v11.To]), (1005, .row 9 false 1 (List.map cS s6.2)), (5, .cells [.hs 1005 0]), (3, .cells [.i 0, .i 0])]) ?_ ((0, v37, s29.2)) hl (frLe_cons rfl (frLe_cons rfl (frLe_cons rfl (frLe_cons rfl (frLe_cons rfl frLe_nil))))) (stoLe_cons rfl (stoLe_cons rfl (stoLe_cons rfl (stoLe_cons rfl (stoLe_cons rfl (stoLe_cons rfl (stoLe_cons rfl (stoLe_cons rfl (stoLe_cons rfl (stoLe_cons rfl (stoLe_cons rfl (stoLe_cons rfl (stoLe_cons rfl (stoLe_cons rfl (stoLe_cons rfl (stoLe_cons rfl (stoLe_cons rfl (stoLe_cons rfl (stoLe_cons rfl (stoLe_cons rfl (stoLe_cons rfl (stoLe_cons rfl (stoLe_cons rfl (stoLe_cons rfl (stoLe_cons rfl (stoLe_cons rfl stoLe_nil)))))))))))))))))))))))))) ?_
                    · intro s42 x44 hr
                      unfold alias_Loops_l5 at hr
                      refine awp_seq ?_
                      refine awp_region ?_
                      refine awpl_op rfl (opTo_q (d := 9) rfl rfl (ev_lss rfl rfl)) ?_
                      refine awpl_nil ?_
                      refine kthen_normal ?_
                      refine awp_seq ?_
                      refine awp_cond rfl (fun c45 => ?_) (fun c45 => ?_)
                      · replace hr := cond_t c45 hr
                        refine awp_skip ?_
                        refine kthen_normal ?_
                        obtain ⟨j46, hx, hy⟩ := bind_some hr
                        refine awp_join (fun j46 => [(1, .ptr 2005 0), (2, .ptr 6 0), (6, .l cS (((mget b14 v35).getD (([] : List Str))))), (7, .i (((((mget b14 v35).getD (([] : List Str)))).length : Int))), (8, .i s42.1)]) (fun j46 => [(6099999, .sus g0.w.heap.size ds60), (6000000, .hold (.fn (.yield b52) [] []) (T60.getD 0 undef)), (6000004, .hold (.mp 1006) (T60.getD 4 undef)), (6000006, .hold (.ptr 6 0) (T60.getD 6 undef)), (6000007, .hold (.fn (.func 62) [] [.ptr 2005 0, .ptr 6 0]) (T60.getD 7 undef)), (2006, .row 9 false 1 (List.map cS j46.1)), (6, .cells [.hs 2006 0]), (2005, .cells [.mp 1011]), (1011, .mapo false (menc keyS cB j46.2)), (1006, .mapo false (menc keyS (cL cS) b14)), (5299999, .sus g0.w.heap.size ds52), (5299998, .lp b52 L52), (5200000, .hold (.l TAlias.pc a0) (T52.getD 0 undef)), (5200003, .hold (.ptr 3 0) (T52.getD 3 undef)), (5200005, .hold (.ptr 5 0) (T52.getD 5 undef)), (5200007, .hold (.ptr 7 0) (T52.getD 7 undef)), (5200014, .hold (.l TAlias.pc a0) (T52.getD 14 undef)), (5200015, .hold (.i ((a0.length : Int))) (T52.getD 15 undef)), (5200016, .hold (.i s6.1) (T52.getD 16 undef)), (5200023, .hold (.fn (.func 61) [] [.ptr 2 0, .ptr 1003 0]) (T52.getD 23 undef)), (1003, .cells [.l cS v11.To]), (2, .cells [.l TAlias.pc a0]), (7, .cells [.s v11.Address, .l cS v11.To]), (1005, .row 9 false 1 (List.map cS s6.2)), (5, .cells [.hs 1005 0]), (3, .cells [.i 0, .i 0])]) (fun z => j46 = z) ?_ ?_
                        · have hr := hx
                          clear hx hy
                          refine awp_block ?_
                          refine awp_seq ?_
                          refine awp_region ?_
                          obtain ⟨v47, h48, hr⟩ := bind_some hr
                          refine awpl_op rfl (opTo_q (d := 10) rfl rfl (ev_idx (f := cS) rfl rfl ty_s_string ty_string rfl h48)) ?_
                          refine awpl_op rfl (opTo_q (d := 11) rfl rfl (ev_load_ep rfl ty_string rfl rfl)) ?_
                          refine awpl_op rfl (opTo_q (d := 5) rfl rfl ev_assign) ?_
                          refine awpl_nil ?_
                          refine kthen_normal ?_
                          refine awp_seq ?_
                          refine awp_region ?_
                          refine awpl_op rfl (opTo_q (d := 12) rfl rfl (ev_load rfl rfl ty_map_string_bool rfl rfl)) ?_
                          refine awpl_op rfl (opTo_q (d := 13) rfl rfl ev_move) ?_
                          refine awpl_op rfl (opTo_q (d := 14) rfl rfl (ev_lookup (KK := keyS) (F := cB) (es := s42.2.2) (k := v47) (z := false) rfl rfl rfl ty_map_string_bool.u ty_string.u ty_bool rfl)) ?_
                          refine awpl_op rfl (opTo_q (d := 15) rfl rfl (ev_not rfl)) ?_
                          refine awpl_nil ?_
                          refine kthen_normal ?_
                          refine awp_cond rfl (fun c49 => ?_) (fun c49 => ?_)
                          · replace hr := cond_t c49 hr
                            refine awp_seq ?_
                            refine awp_region ?_
                            refine awpl_op rfl (opTo_q (d := 16) rfl rfl (ev_load rfl rfl ty_map_string_bool rfl rfl)) ?_
                            refine awpl_op rfl (opTo_q (d := 17) rfl rfl ev_move) ?_
                            refine awpl_op rfl (opTo_mapUpdate (KK := keyS) (F := cB) (es := s42.2.2) (k := v47) (v := true) rfl rfl rfl rfl rfl ty_map_string_bool.u ty_string.u) ?_
                            refine awpl_nil ?_
                            refine kthen_normal ?_
                            refine awp_region ?_
                            refine awpl_op rfl (opTo_q (d := 18) rfl rfl (ev_load rfl rfl ty_s_string rfl rfl)) ?_
                            refine awpl_op rfl (opTo_q (d := 19) rfl rfl ev_move) ?_
                            refine awpl_op rfl (opTo_g (d := 20) rfl rfl (opG_lit (F := cS) (l := ([v47] : List Str)) ty_s_string ty_string rfl (fun _ => rfl) rfl rfl)) ?_
                            obtain ⟨v50, h51, hr⟩ := bind_some hr
                            refine awpl_op rfl (opTo_append (k := 21) (F := cS) (l := s42.2.1) (xs := (([v47] : List Str))) (lim := 8796093022208) rfl rfl rfl rfl ty_s_string ty_string rfl rfl (fun _ => rfl) rfl h51) ?_
                            refine awpl_op rfl (opTo_store rfl rfl rfl ty_s_string rfl rfl) ?_
                            refine awpl_nil ?_
                            refine kblock_normal ?_
                            cases hr
                            exact joinK_normal _ rfl (frLe_cons rfl (frLe_cons rfl (frLe_cons rfl (frLe_cons rfl (frLe_cons rfl frLe_nil))))) (stoLe_cons rfl (stoLe_cons rfl (stoLe_cons rfl (stoLe_cons rfl (stoLe_cons rfl (stoLe_cons rfl (stoLe_cons rfl (stoLe_cons rfl (stoLe_cons rfl (stoLe_cons rfl (stoLe_cons rfl (stoLe_cons rfl (stoLe_cons rfl (stoLe_cons rfl (stoLe_cons rfl (stoLe_cons rfl (stoLe_cons rfl (stoLe_cons rfl (stoLe_cons rfl (stoLe_cons rfl (stoLe_cons rfl (stoLe_cons rfl (stoLe_cons rfl (stoLe_cons rfl (stoLe_cons rfl (stoLe_cons rfl stoLe_nil))))))))))))))))))))))))))
                          · replace hr := cond_f c49 hr
                            refine awp_skip ?_
                            refine kblock_normal ?_
                            cases hr
                            exact joinK_normal _ rfl (frLe_cons rfl (frLe_cons rfl (frLe_cons rfl (frLe_cons rfl (frLe_cons rfl frLe_nil))))) (stoLe_cons rfl (stoLe_cons rfl (stoLe_cons rfl (stoLe_cons rfl (stoLe_cons rfl (stoLe_cons rfl (stoLe_cons rfl (stoLe_cons rfl (stoLe_cons rfl (stoLe_cons rfl (stoLe_cons rfl (stoLe_cons rfl (stoLe_cons rfl (stoLe_cons rfl (stoLe_cons rfl (stoLe_cons rfl (stoLe_cons rfl (stoLe_cons rfl (stoLe_cons rfl (stoLe_cons rfl (stoLe_cons rfl (stoLe_cons rfl (stoLe_cons rfl (stoLe_cons rfl (stoLe_cons rfl (stoLe_cons rfl stoLe_nil))))))))))))))))))))))))))
                        · rintro _ rfl
                          have hr := hy
                          clear hx hy
                          refine awp_region ?_
                          refine awpl_op rfl (opTo_q (d := 22) rfl rfl (ev_add rfl rfl)) ?_
                          refine awpl_op rfl (opTo_q (d := 8) rfl rfl ev_move) ?_
                          refine awpl_nil ?_
                          cases hr
                          exact ⟨rfl, (frLe_cons rfl (frLe_cons rfl (frLe_cons rfl (frLe_cons rfl (frLe_cons rfl frLe_nil))))), (stoLe_cons rfl (stoLe_cons rfl (stoLe_cons rfl (stoLe_cons rfl (stoLe_cons rfl (stoLe_cons rfl (stoLe_cons rfl (stoLe_cons rfl (stoLe_cons rfl (stoLe_cons rfl (stoLe_cons rfl (stoLe_cons rfl (stoLe_cons rfl (stoLe_cons rfl (stoLe_cons rfl (stoLe_cons rfl (stoLe_cons rfl (stoLe_cons rfl (stoLe_cons rfl (stoLe_cons rfl (stoLe_cons rfl (stoLe_cons rfl (stoLe_cons rfl (stoLe_cons rfl (stoLe_cons rfl (stoLe_cons rfl stoLe_nil))))))))))))))))))))))))))⟩
                      · replace hr := cond_f c45 hr
                        refine awp_exit ?_
                        refine kthen_exit ?_
                        cases hr
                        exact ⟨by simp, rfl, frLe_nil, (stoLe_cons rfl (stoLe_cons rfl (stoLe_cons rfl (stoLe_cons rfl (stoLe_cons rfl (stoLe_cons rfl (stoLe_cons rfl (stoLe_cons rfl (stoLe_cons rfl (stoLe_cons rfl (stoLe_cons rfl (stoLe_cons rfl (stoLe_cons rfl (stoLe_cons rfl (stoLe_cons rfl (stoLe_cons rfl (stoLe_cons rfl (stoLe_cons rfl (stoLe_cons rfl (stoLe_cons rfl (stoLe_cons rfl (stoLe_cons rfl (stoLe_cons rfl (stoLe_cons rfl (stoLe_cons rfl (stoLe_cons rfl stoLe_nil))))))))))))))))))))))))))⟩
                    · intro e fr2 st2 hq
                      obtain ⟨rfl, hf, hs⟩ := hq
                      refine kblock_exit ?_
                      refine inlK (cs := []) (fr'' := [(0, .fn (.yield b52) [] []), (4, .mp 1006), (6, .ptr 6 0), (7, .fn (.func 62) [] [.ptr 2005 0, .ptr 6 0])]) (σ'' := [(2006, .row 9 false 1 (List.map cS b43.1)), (6, .cells [.hs 2006 0]), (2005, .cells [.mp 1011]), (1011, .mapo false (menc keyS cB b43.2)), (1006, .mapo false (menc keyS (cL cS) b14)), (5299999, .sus g0.w.heap.size ds52), (5299998, .lp b52 L52), (5200000, .hold (.l TAlias.pc a0) (T52.getD 0 undef)), (5200003, .hold (.ptr 3 0) (T52.getD 3 undef)), (5200005, .hold (.ptr 5 0) (T52.getD 5 undef)), (5200007, .hold (.ptr 7 0) (T52.getD 7 undef)), (5200014, .hold (.l TAlias.pc a0) (T52.getD 14 undef)), (5200015, .hold (.i ((a0.length : Int))) (T52.getD 15 undef)), (5200016, .hold (.i s6.1) (T52.getD 16 undef)), (5200023, .hold (.fn (.func 61) [] [.ptr 2 0, .ptr 1003 0]) (T52.getD 23 undef)), (1003, .cells [.l cS v11.To]), (2, .cells [.l TAlias.pc a0]), (7, .cells [.s v11.Address, .l cS v11.To]), (1005, .row 9 false 1 (List.map cS s6.2)), (5, .cells [.hs 1005 0]), (3, .cells [.i 0, .i 0])]) (.inr rfl) hf hs .nil (.cons rfl (.cons rfl (.cons rfl (.cons rfl .nil)))) rfl (stoLe_cons rfl (stoLe_cons rfl (stoLe_cons rfl (stoLe_cons rfl (stoLe_cons rfl (stoLe_cons rfl (stoLe_cons rfl (stoLe_cons rfl (stoLe_cons rfl (stoLe_cons rfl (stoLe_cons rfl (stoLe_cons rfl (stoLe_cons rfl (stoLe_cons rfl (stoLe_cons rfl (stoLe_cons rfl (stoLe_cons rfl (stoLe_cons rfl (stoLe_cons rfl (stoLe_cons rfl (stoLe_cons rfl stoLe_nil))))))))))))))))))))) ?_
                      refine awpl_nil ?_
                      refine kblock_normal ?_
                      cases hr
                      exact ⟨rfl, (frLe_cons rfl (frLe_cons rfl (frLe_cons rfl (frLe_cons rfl frLe_nil)))), (stoLe_cons rfl (stoLe_cons rfl (stoLe_cons rfl (stoLe_cons rfl (stoLe_cons rfl (stoLe_cons rfl (stoLe_cons rfl (stoLe_cons rfl (stoLe_cons rfl (stoLe_cons rfl (stoLe_cons rfl (stoLe_cons rfl (stoLe_cons rfl (stoLe_cons rfl (stoLe_cons rfl (stoLe_cons rfl (stoLe_cons rfl (stoLe_cons rfl (stoLe_cons rfl (stoLe_cons rfl (stoLe_cons rfl stoLe_nil)))))))))))))))))))))⟩
                · replace hr := cond_f c34 hr
                  refine awp_exit ?_
                  refine kthen_exit ?_
                  cases hr
                  exact ⟨by simp, rfl, frLe_nil, (stoLe_cons rfl (stoLe_cons rfl (stoLe_cons rfl (stoLe_cons rfl (stoLe_cons rfl (stoLe_cons rfl (stoLe_cons rfl (stoLe_cons rfl (stoLe_cons rfl (stoLe_cons rfl (stoLe_cons rfl (stoLe_cons rfl (stoLe_cons rfl (stoLe_cons rfl (stoLe_cons rfl (stoLe_cons rfl stoLe_nil))))))))))))))))⟩
              · intro e fr2 st2 hq
                rcases o32 with b30 | b31
                · obtain ⟨rfl, hf, hs⟩ := hq
                  replace hr := elim_l hr
                  refine kblock_exit ?_
                  refine itrK (L' := L52) (fr'' := [(0, .l TAlias.pc a0), (3, .ptr 3 0), (5, .ptr 5 0), (7, .ptr 7 0), (14, .l TAlias.pc a0), (15, .i ((a0.length : Int))), (16, .i s6.1), (23, .fn (.func 61) [] [.ptr 2 0, .ptr 1003 0])]) (σ'' := [(1003, .cells [.l cS v11.To]), (2, .cells [.l TAlias.pc a0]), (7, .cells [.s v11.Address, .l cS v11.To]), (1005, .row 9 false 1 (List.map cS s6.2)), (5, .cells [.hs 1005 0]), (3, .cells [.i 0, .i 0])]) (.inr rfl) hs rfl (.cons rfl (.cons rfl (.cons rfl (.cons rfl (.cons rfl (.cons rfl (.cons rfl (.cons rfl .nil)))))))) rfl (stoLe_cons rfl (stoLe_cons rfl (stoLe_cons rfl (stoLe_cons rfl (stoLe_cons rfl (stoLe_cons rfl stoLe_nil)))))) rfl ?_
                  refine .off ?_
                  refine kblock_normal ?_
                  refine kblock_normal ?_
                  cases hr
                  exact joinK_normal _ rfl (frLe_cons rfl (frLe_cons rfl (frLe_cons rfl (frLe_cons rfl (frLe_cons rfl (frLe_cons rfl frLe_nil)))))) (stoLe_cons rfl (stoLe_cons rfl (stoLe_cons rfl stoLe_nil)))
                · obtain ⟨rfl, hf, hs⟩ := hq
                  replace hr := elim_r hr
                  refine kblock_ret ?_
                  refine itrK (L' := (stop L52 (.exit 2))) (fr'' := [(0, .l TAlias.pc a0), (3, .ptr 3 0), (5, .ptr 5 0), (7, .ptr 7 0), (14, .l TAlias.pc a0), (15, .i ((a0.length : Int))), (16, .i s6.1), (23, .fn (.func 61) [] [.ptr 2 0, .ptr 1003 0])]) (σ'' := [(1003, .cells [.l cS v11.To]), (2, .cells [.l TAlias.pc a0]), (7, .cells [.s v11.Address, .l cS v11.To]), (1005, .row 9 false 1 (List.map cS b31)), (5, .cells [.hs 1005 0]), (3, .cells [.i 0, .i 0])]) (.inl rfl) hs rfl (.cons rfl (.cons rfl (.cons rfl (.cons rfl (.cons rfl (.cons rfl (.cons rfl (.cons rfl .nil)))))))) rfl (stoLe_cons rfl (stoLe_cons rfl (stoLe_cons rfl (stoLe_cons rfl (stoLe_cons rfl (stoLe_cons rfl stoLe_nil)))))) rfl ?_
                  refine .jump ?_
                  refine awp_exit ?_
                  refine kblock_exit ?_
                  refine kblock_normal ?_
                  cases hr
                  exact joinK_normal _ rfl (frLe_cons rfl (frLe_cons rfl (frLe_cons rfl (frLe_cons rfl (frLe_cons rfl (frLe_cons rfl frLe_nil)))))) (stoLe_cons rfl (stoLe_cons rfl (stoLe_cons rfl stoLe_nil)))
        · rintro _ rfl
          have hr := hy
          clear hx hy
          refine awp_region ?_
          refine awpl_op rfl (opTo_q (d := 33) rfl rfl (ev_add rfl rfl)) ?_
          refine awpl_op rfl (opTo_q (d := 16) rfl rfl ev_move) ?_
          refine awpl_nil ?_
          cases hr
          exact ⟨rfl, (frLe_cons rfl (frLe_cons rfl (frLe_cons rfl (frLe_cons rfl (frLe_cons rfl (frLe_cons rfl frLe_nil)))))), (stoLe_cons rfl (stoLe_cons rfl (stoLe_cons rfl stoLe_nil)))⟩
      · replace hr := cond_f c9 hr
        refine awp_exit ?_
        refine kthen_exit ?_
        cases hr
        exact ⟨by simp, rfl, (frLe_cons rfl (frLe_cons rfl frLe_nil)), (stoLe_cons rfl (stoLe_cons rfl (stoLe_cons rfl stoLe_nil)))⟩
    · intro e fr2 st2 hq
      obtain ⟨rfl, hf, hs⟩ := hq
      refine kblock_exit ?_
      refine kthen_normal ?_
      refine awp_le hf hs ?_
      refine awp_seq ?_
      obtain ⟨v52, h53, hr⟩ := bind_some hr
      refine awp_drawn 2 [(35, .agg [.i v52.Code, .i v52.Index]), (34, .hs 1005 0)] mixed (by kernel_rfl) rfl rfl (.run (.plain rfl) (opG_q (ev_load rfl rfl ty_s_string rfl rfl)) (.run (.plain rfl) (opG_call (basic_None_run  v52 h53) rfl) .nil)) rfl ?_
      refine awpl_op rfl (opTo_q (d := 2) rfl rfl ev_assign) ?_
      refine awpl_op rfl (opTo_store rfl rfl rfl ty_api_Fault rfl rfl) ?_
      refine awpl_nil ?_
      refine kthen_normal ?_
      refine awp_pub (d := 2) (F := cS) (l := b7) rfl rfl ?_
      refine awp_ret ?_
      cases hr
      exact kret' rfl (.cons (res_tmp rfl) (.cons (res_cellN rfl rfl ty_api_Fault rfl rfl) .nil)) rfl
end Go.Proofs.Ytlpmbmilnoncdaa

/- A function of the program computes what its Lean function does. Written by program. -/
namespace Go.Proofs.Ytlpmbmilnoncdaa
open Go.RowKit
set_option maxRecDepth 100000
set_option maxHeartbeats 40000000
set_option linter.unusedVariables false
theorem L_expands_run  (r : Bool) (hr : L_expands = some r) : Run Try.prog 30 [] (.bo r) := by
  unfold L_expands at hr
  refine run_of_awp (fn := Try.f30) ⟨Try.func30, rfl, by kernel_rfl⟩ rfl (fun _ => rfl) fun g0 hg => ?_
  refine awp_seq ?_
  refine awp_region ?_
  refine awpl_op rfl (opTo_q (d := 0) rfl rfl ev_assign) ?_
  refine awpl_nil ?_
  refine kthen_normal ?_
  refine awp_seq ?_
  refine awp_region ?_
  refine awpl_op rfl (opTo_g (d := 8) rfl rfl (opG_lit (F := cS) (l := ([([98, 64, 120] : Str), ([99, 64, 120] : Str)] : List Str)) ty_s_string ty_string rfl (fun _ => rfl) rfl rfl)) ?_
  refine awpl_op rfl (opTo_q (d := 9) rfl rfl (ev_build ty_api_Alias pl_api_Alias (.inr ⟨rfl, rfl⟩) rfl)) ?_
  refine awpl_op rfl (opTo_g (d := 10) rfl rfl (opG_lit (F := cS) (l := ([([97, 64, 120] : Str), ([100, 64, 120] : Str)] : List Str)) ty_s_string ty_string rfl (fun _ => rfl) rfl rfl)) ?_
  refine awpl_op rfl (opTo_q (d := 11) rfl rfl (ev_build ty_api_Alias pl_api_Alias (.inr ⟨rfl, rfl⟩) rfl)) ?_
  refine awpl_op rfl (opTo_g (d := 12) rfl rfl (opG_lit (F := TAlias.pc) (l := ([(TAlias.mk (([97, 64, 120] : Str)) (([([98, 64, 120] : Str), ([99, 64, 120] : Str)] : List Str))), (TAlias.mk (([98, 64, 120] : Str)) (([([97, 64, 120] : Str), ([100, 64, 120] : Str)] : List Str)))] : List TAlias)) ty_s_api_Alias ty_api_Alias rfl (fun _ => rfl) rfl rfl)) ?_
  refine awpl_op rfl (opTo_q (d := 1) rfl rfl ev_assign) ?_
  refine awpl_nil ?_
  refine kthen_normal ?_
  refine awp_seq ?_
  refine awp_region ?_
  refine awpl_op rfl (opTo_q (d := 14) rfl rfl ev_move) ?_
  obtain ⟨v1, h2, hr⟩ := bind_some hr
  refine awpl_op rfl (opTo_call (k := 15) (alias_Expand_run (([(TAlias.mk (([97, 64, 120] : Str)) (([([98, 64, 120] : Str), ([99, 64, 120] : Str)] : List Str))), (TAlias.mk (([98, 64, 120] : Str)) (([([97, 64, 120] : Str), ([100, 64, 120] : Str)] : List Str)))] : List TAlias)) (([97, 64, 120] : Str)) v1 h2) rfl rfl) ?_
  refine awpl_op rfl (opTo_q (d := 13) rfl rfl ev_move) ?_
  refine awpl_op rfl (opTo_q (d := 16) rfl rfl (ev_extract rfl rfl)) ?_
  refine awpl_op rfl (opTo_q (d := 17) rfl rfl (ev_extract rfl rfl)) ?_
  refine awpl_op rfl (opTo_alloc (k := 3) 3 rfl ty_api_Fault (.inr ⟨rfl, rfl⟩) rfl rfl rfl) ?_
  refine awpl_op rfl (opTo_q (d := 2) rfl rfl ev_assign) ?_
  refine awpl_op rfl (opTo_store rfl rfl rfl ty_api_Fault rfl rfl) ?_
  refine awpl_nil ?_
  refine kthen_normal ?_
  refine awp_seq ?_
  refine awp_region ?_
  refine awpl_op rfl (opTo_q (d := 19) rfl rfl ev_move) ?_
  obtain ⟨v3, h4, hr⟩ := bind_some hr
  refine awpl_op rfl (opTo_call (k := 20) (alias_Loops_run (([(TAlias.mk (([97, 64, 120] : Str)) (([([98, 64, 120] : Str), ([99, 64, 120] : Str)] : List Str))), (TAlias.mk (([98, 64, 120] : Str)) (([([97, 64, 120] : Str), ([100, 64, 120] : Str)] : List Str)))] : List TAlias)) v3 h4) rfl rfl) ?_
  refine awpl_op rfl (opTo_q (d := 18) rfl rfl ev_move) ?_
  refine awpl_op rfl (opTo_q (d := 21) rfl rfl (ev_extract rfl rfl)) ?_
  refine awpl_op rfl (opTo_q (d := 22) rfl rfl (ev_extract rfl rfl)) ?_
  refine awpl_op rfl (opTo_alloc (k := 5) 5 rfl ty_api_Fault (.inr ⟨rfl, rfl⟩) rfl rfl rfl) ?_
  refine awpl_op rfl (opTo_q (d := 4) rfl rfl ev_assign) ?_
  refine awpl_op rfl (opTo_store rfl rfl rfl ty_api_Fault rfl rfl) ?_
  refine awpl_nil ?_
  refine kthen_normal ?_
  refine awp_seq ?_
  refine awp_region ?_
  refine awpl_op rfl (opTo_q (d := 24) rfl rfl ev_move) ?_
  obtain ⟨v5, h6, hr⟩ := bind_some hr
  refine awpl_op rfl (opTo_call (k := 25) (alias_Expand_run (([(TAlias.mk (([97, 64, 120] : Str)) (([([98, 64, 120] : Str), ([99, 64, 120] : Str)] : List Str))), (TAlias.mk (([98, 64, 120] : Str)) (([([97, 64, 120] : Str), ([100, 64, 120] : Str)] : List Str)))] : List TAlias)) (([97] : Str)) v5 h6) rfl rfl) ?_
  refine awpl_op rfl (opTo_q (d := 23) rfl rfl ev_move) ?_
  refine awpl_op rfl (opTo_q (d := 26) rfl rfl (ev_extract rfl rfl)) ?_
  refine awpl_op rfl (opTo_q (d := 27) rfl rfl (ev_extract rfl rfl)) ?_
  refine awpl_op rfl (opTo_alloc (k := 7) 7 rfl ty_api_Fault (.inr ⟨rfl, rfl⟩) rfl rfl rfl) ?_
  refine awpl_op rfl (opTo_q (d := 6) rfl rfl ev_assign) ?_
  refine awpl_op rfl (opTo_store rfl rfl rfl ty_api_Fault rfl rfl) ?_
  refine awpl_nil ?_
  refine kthen_normal ?_
  obtain ⟨j7, hx, hy⟩ := bind_some hr
  refine awp_join (fun j7 => [(0, .bo j7)]) (fun j7 => []) (fun z => j7 = z) ?_ ?_
  · have hr := hx
    clear hx hy
    refine bool_split ((v1.2.Code == 0)) (fun c8 => ?_) (fun c8 => ?_)
    · replace hr := cond_t c8 hr
      refine bool_split ((v3.2.Code == 0)) (fun c9 => ?_) (fun c9 => ?_)
      · replace hr := cond_t c9 hr
        obtain ⟨v10, h11, hr⟩ := bind_some hr
        refine bool_split ((allEq [(v5.2.Code == v10.Code), (v5.2.Index == v10.Index)])) (fun c12 => ?_) (fun c12 => ?_)
        · replace hr := cond_t c12 hr
          obtain ⟨v13, h14, hr⟩ := bind_some hr
          refine bool_split v13 (fun c15 => ?_) (fun c15 => ?_)
          · replace hr := cond_t c15 hr
            refine awp_drawn 21 [(48, .l cS (([([97, 64, 120] : Str), ([98, 64, 120] : Str)] : List Str))), (47, .l cS v3.1), (46, .bo v13), (45, .bo v13), (44, .bo v13), (43, .l cS (([([99, 64, 120] : Str), ([100, 64, 120] : Str)] : List Str))), (42, .l cS v1.1), (41, .bo ((allEq [(v5.2.Code == v10.Code), (v5.2.Index == v10.Index)]))), (40, .bo ((allEq [(v5.2.Code == v10.Code), (v5.2.Index == v10.Index)]))), (39, .bo ((allEq [(v5.2.Code == v10.Code), (v5.2.Index == v10.Index)]))), (38, .agg [.i v10.Code, .i v10.Index]), (37, .agg [.i v5.2.Code, .i v5.2.Index]), (36, .bo ((v3.2.Code == 0))), (35, .bo ((v3.2.Code == 0))), (34, .bo ((v3.2.Code == 0))), (33, .i v3.2.Code), (32, .ptr 5 0), (31, .bo ((v1.2.Code == 0))), (30, .bo ((v1.2.Code == 0))), (29, .i v1.2.Code), (28, .ptr 3 0)] mixed (by kernel_rfl) rfl rfl (.run (.plain rfl) (opG_q (ev_fieldAddr rfl ty_api_Fault.u rfl ty_int rfl)) (.run (.plain rfl) (opG_q (ev_load rfl rfl ty_int rfl rfl)) (.run (.plain rfl) (opG_q (ev_eql rfl rfl)) (.run (.plain rfl) (opG_q ev_move) (.run (.yes (d := 31) rfl rfl rfl c8) (opG_q (ev_fieldAddr rfl ty_api_Fault.u rfl ty_int rfl)) (.run (.yes (d := 31) rfl rfl rfl c8) (opG_q (ev_load rfl rfl ty_int rfl rfl)) (.run (.yes (d := 31) rfl rfl rfl c8) (opG_q (ev_eql rfl rfl)) (.run (.plain rfl) (opG_q (ev_pick_t rfl c8)) (.run (.plain rfl) (opG_q ev_move) (.run (.yes (d := 36) rfl rfl rfl c9) (opG_q (ev_loadN rfl rfl ty_api_Fault rfl rfl)) (.run (.yes (d := 36) rfl rfl rfl c9) (opG_call (R_At_run 10 ((-2)) v10 h11) rfl) (.run (.yes (d := 36) rfl rfl rfl c9) (opG_q (ev_structeq rfl rfl ty_api_Fault cmp_api_Fault (.int rfl (by decide) ty_int (.int rfl (by decide) ty_int .nil)))) (.run (.plain rfl) (opG_q (ev_pick_t rfl c9)) (.run (.plain rfl) (opG_q ev_move) (.run (.yes (d := 41) rfl rfl rfl c12) (opG_q ev_move) (.run (.yes (d := 41) rfl rfl rfl c12) (opG_lit (F := cS) (l := ([([99, 64, 120] : Str), ([100, 64, 120] : Str)] : List Str)) ty_s_string ty_string rfl (fun _ => rfl) rfl rfl) (.run (.yes (d := 41) rfl rfl rfl c12) (opG_call (R_Strings_run v1.1 (([([99, 64, 120] : Str), ([100, 64, 120] : Str)] : List Str)) v13 h14) rfl) (.run (.plain rfl) (opG_q (ev_pick_t rfl c12)) (.run (.plain rfl) (opG_q ev_move) (.run (.yes (d := 46) rfl rfl rfl c15) (opG_q ev_move) (.run (.yes (d := 46) rfl rfl rfl c15) (opG_lit (F := cS) (l := ([([97, 64, 120] : Str), ([98, 64, 120] : Str)] : List Str)) ty_s_string ty_string rfl (fun _ => rfl) rfl rfl) .nil))))))))))))))))))))) rfl ?_
            obtain ⟨v16, h17, hr⟩ := bind_some hr
            refine awpl_yes (d := 46) rfl rfl rfl c15 (opTo_call (k := 49) (R_Strings_run v3.1 (([([97, 64, 120] : Str), ([98, 64, 120] : Str)] : List Str)) v16 h17) rfl rfl) ?_
            refine awpl_op rfl (opTo_q (d := 50) rfl rfl (ev_pick_t rfl c15)) ?_
            refine awpl_op rfl (opTo_q (d := 0) rfl rfl ev_assign) ?_
            refine awpl_nil ?_
            cases hr
            exact joinK_normal _ rfl (frLe_cons rfl frLe_nil) stoLe_nil
          · replace hr := cond_f c15 hr
            refine awp_drawn 21 [(48, .tup []), (47, .tup []), (46, .bo v13), (45, .bo v13), (44, .bo v13), (43, .l cS (([([99, 64, 120] : Str), ([100, 64, 120] : Str)] : List Str))), (42, .l cS v1.1), (41, .bo ((allEq [(v5.2.Code == v10.Code), (v5.2.Index == v10.Index)]))), (40, .bo ((allEq [(v5.2.Code == v10.Code), (v5.2.Index == v10.Index)]))), (39, .bo ((allEq [(v5.2.Code == v10.Code), (v5.2.Index == v10.Index)]))), (38, .agg [.i v10.Code, .i v10.Index]), (37, .agg [.i v5.2.Code, .i v5.2.Index]), (36, .bo ((v3.2.Code == 0))), (35, .bo ((v3.2.Code == 0))), (34, .bo ((v3.2.Code == 0))), (33, .i v3.2.Code), (32, .ptr 5 0), (31, .bo ((v1.2.Code == 0))), (30, .bo ((v1.2.Code == 0))), (29, .i v1.2.Code), (28, .ptr 3 0)] mixed (by kernel_rfl) rfl rfl (.run (.plain rfl) (opG_q (ev_fieldAddr rfl ty_api_Fault.u rfl ty_int rfl)) (.run (.plain rfl) (opG_q (ev_load rfl rfl ty_int rfl rfl)) (.run (.plain rfl) (opG_q (ev_eql rfl rfl)) (.run (.plain rfl) (opG_q ev_move) (.run (.yes (d := 31) rfl rfl rfl c8) (opG_q (ev_fieldAddr rfl ty_api_Fault.u rfl ty_int rfl)) (.run (.yes (d := 31) rfl rfl rfl c8) (opG_q (ev_load rfl rfl ty_int rfl rfl)) (.run (.yes (d := 31) rfl rfl rfl c8) (opG_q (ev_eql rfl rfl)) (.run (.plain rfl) (opG_q (ev_pick_t rfl c8)) (.run (.plain rfl) (opG_q ev_move) (.run (.yes (d := 36) rfl rfl rfl c9) (opG_q (ev_loadN rfl rfl ty_api_Fault rfl rfl)) (.run (.yes (d := 36) rfl rfl rfl c9) (opG_call (R_At_run 10 ((-2)) v10 h11) rfl) (.run (.yes (d := 36) rfl rfl rfl c9) (opG_q (ev_structeq rfl rfl ty_api_Fault cmp_api_Fault (.int rfl (by decide) ty_int (.int rfl (by decide) ty_int .nil)))) (.run (.plain rfl) (opG_q (ev_pick_t rfl c9)) (.run (.plain rfl) (opG_q ev_move) (.run (.yes (d := 41) rfl rfl rfl c12) (opG_q ev_move) (.run (.yes (d := 41) rfl rfl rfl c12) (opG_lit (F := cS) (l := ([([99, 64, 120] : Str), ([100, 64, 120] : Str)] : List Str)) ty_s_string ty_string rfl (fun _ => rfl) rfl rfl) (.run (.yes (d := 41) rfl rfl rfl c12) (opG_call (R_Strings_run v1.1 (([([99, 64, 120] : Str), ([100, 64, 120] : Str)] : List Str)) v13 h14) rfl) (.run (.plain rfl) (opG_q (ev_pick_t rfl c12)) (.run (.plain rfl) (opG_q ev_move) (.skip (.no (d := 46) rfl rfl rfl c15) (.skip (.no (d := 46) rfl rfl rfl c15) .nil))))))))))))))))))))) rfl ?_
            refine awpl_no (d := 46) rfl rfl rfl c15 ?_
            refine awpl_op rfl (opTo_q (d := 50) rfl rfl (ev_pick_f rfl c15)) ?_
            refine awpl_op rfl (opTo_q (d := 0) rfl rfl ev_assign) ?_
            refine awpl_nil ?_
            cases hr
            exact joinK_normal _ rfl (frLe_cons rfl frLe_nil) stoLe_nil
        · replace hr := cond_f c12 hr
          refine awp_drawn 21 [(48, .tup []), (47, .tup []), (46, .bo false), (45, .bo false), (44, .tup []), (43, .tup []), (42, .tup []), (41, .bo ((allEq [(v5.2.Code == v10.Code), (v5.2.Index == v10.Index)]))), (40, .bo ((allEq [(v5.2.Code == v10.Code), (v5.2.Index == v10.Index)]))), (39, .bo ((allEq [(v5.2.Code == v10.Code), (v5.2.Index == v10.Index)]))), (38, .agg [.i v10.Code, .i v10.Index]), (37, .agg [.i v5.2.Code, .i v5.2.Index]), (36, .bo ((v3.2.Code == 0))), (35, .bo ((v3.2.Code == 0))), (34, .bo ((v3.2.Code == 0))), (33, .i v3.2.Code), (32, .ptr 5 0), (31, .bo ((v1.2.Code == 0))), (30, .bo ((v1.2.Code == 0))), (29, .i v1.2.Code), (28, .ptr 3 0)] mixed (by kernel_rfl) rfl rfl (.run (.plain rfl) (opG_q (ev_fieldAddr rfl ty_api_Fault.u rfl ty_int rfl)) (.run (.plain rfl) (opG_q (ev_load rfl rfl ty_int rfl rfl)) (.run (.plain rfl) (opG_q (ev_eql rfl rfl)) (.run (.plain rfl) (opG_q ev_move) (.run (.yes (d := 31) rfl rfl rfl c8) (opG_q (ev_fieldAddr rfl ty_api_Fault.u rfl ty_int rfl)) (.run (.yes (d := 31) rfl rfl rfl c8) (opG_q (ev_load rfl rfl ty_int rfl rfl)) (.run (.yes (d := 31) rfl rfl rfl c8) (opG_q (ev_eql rfl rfl)) (.run (.plain rfl) (opG_q (ev_pick_t rfl c8)) (.run (.plain rfl) (opG_q ev_move) (.run (.yes (d := 36) rfl rfl rfl c9) (opG_q (ev_loadN rfl rfl ty_api_Fault rfl rfl)) (.run (.yes (d := 36) rfl rfl rfl c9) (opG_call (R_At_run 10 ((-2)) v10 h11) rfl) (.run (.yes (d := 36) rfl rfl rfl c9) (opG_q (ev_structeq rfl rfl ty_api_Fault cmp_api_Fault (.int rfl (by decide) ty_int (.int rfl (by decide) ty_int .nil)))) (.run (.plain rfl) (opG_q (ev_pick_t rfl c9)) (.run (.plain rfl) (opG_q ev_move) (.skip (.no (d := 41) rfl rfl rfl c12) (.skip (.no (d := 41) rfl rfl rfl c12) (.skip (.no (d := 41) rfl rfl rfl c12) (.run (.plain rfl) (opG_q (ev_pick_f rfl c12)) (.run (.plain rfl) (opG_q ev_move) (.skip (.no (d := 46) rfl rfl rfl rfl) (.skip (.no (d := 46) rfl rfl rfl rfl) .nil))))))))))))))))))))) rfl ?_
          refine awpl_no (d := 46) rfl rfl rfl rfl ?_
          refine awpl_op rfl (opTo_q (d := 50) rfl rfl (ev_pick_f rfl rfl)) ?_
          refine awpl_op rfl (opTo_q (d := 0) rfl rfl ev_assign) ?_
          refine awpl_nil ?_
          cases hr
          exact joinK_normal _ rfl (frLe_cons rfl frLe_nil) stoLe_nil
      · replace hr := cond_f c9 hr
        refine awp_drawn 21 [(48, .tup []), (47, .tup []), (46, .bo false), (45, .bo false), (44, .tup []), (43, .tup []), (42, .tup []), (41, .bo false), (40, .bo false), (39, .tup []), (38, .tup []), (37, .tup []), (36, .bo ((v3.2.Code == 0))), (35, .bo ((v3.2.Code == 0))), (34, .bo ((v3.2.Code == 0))), (33, .i v3.2.Code), (32, .ptr 5 0), (31, .bo ((v1.2.Code == 0))), (30, .bo ((v1.2.Code == 0))), (29, .i v1.2.Code), (28, .ptr 3 0)] mixed (by kernel_rfl) rfl rfl (.run (.plain rfl) (opG_q (ev_fieldAddr rfl ty_api_Fault.u rfl ty_int rfl)) (.run (.plain rfl) (opG_q (ev_load rfl rfl ty_int rfl rfl)) (.run (.plain rfl) (opG_q (ev_eql rfl rfl)) (.run (.plain rfl) (opG_q ev_move) (.run (.yes (d := 31) rfl rfl rfl c8) (opG_q (ev_fieldAddr rfl ty_api_Fault.u rfl ty_int rfl)) (.run (.yes (d := 31) rfl rfl rfl c8) (opG_q (ev_load rfl rfl ty_int rfl rfl)) (.run (.yes (d := 31) rfl rfl rfl c8) (opG_q (ev_eql rfl rfl)) (.run (.plain rfl) (opG_q (ev_pick_t rfl c8)) (.run (.plain rfl) (opG_q ev_move) (.skip (.no (d := 36) rfl rfl rfl c9) (.skip (.no (d := 36) rfl rfl rfl c9) (.skip (.no (d := 36) rfl rfl rfl c9) (.run (.plain rfl) (opG_q (ev_pick_f rfl c9)) (.run (.plain rfl) (opG_q ev_move) (.skip (.no (d := 41) rfl rfl rfl rfl) (.skip (.no (d := 41) rfl rfl rfl rfl) (.skip (.no (d := 41) rfl rfl rfl rfl) (.run (.plain rfl) (opG_q (ev_pick_f rfl rfl)) (.run (.plain rfl) (opG_q ev_move) (.skip (.no (d := 46) rfl rfl rfl rfl) (.skip (.no (d := 46) rfl rfl rfl rfl) .nil))))))))))))))))))))) rfl ?_
        refine awpl_no (d := 46) rfl rfl rfl rfl ?_
        refine awpl_op rfl (opTo_q (d := 50) rfl rfl (ev_pick_f rfl rfl)) ?_
        refine awpl_op rfl (opTo_q (d := 0) rfl rfl ev_assign) ?_
        refine awpl_nil ?_
        cases hr
        exact joinK_normal _ rfl (frLe_cons rfl frLe_nil) stoLe_nil
    · replace hr := cond_f c8 hr
      refine awp_drawn 21 [(48, .tup []), (47, .tup []), (46, .bo false), (45, .bo false), (44, .tup []), (43, .tup []), (42, .tup []), (41, .bo false), (40, .bo false), (39, .tup []), (38, .tup []), (37, .tup []), (36, .bo false), (35, .bo false), (34, .tup []), (33, .tup []), (32, .tup []), (31, .bo ((v1.2.Code == 0))), (30, .bo ((v1.2.Code == 0))), (29, .i v1.2.Code), (28, .ptr 3 0)] mixed (by kernel_rfl) rfl rfl (.run (.plain rfl) (opG_q (ev_fieldAddr rfl ty_api_Fault.u rfl ty_int rfl)) (.run (.plain rfl) (opG_q (ev_load rfl rfl ty_int rfl rfl)) (.run (.plain rfl) (opG_q (ev_eql rfl rfl)) (.run (.plain rfl) (opG_q ev_move) (.skip (.no (d := 31) rfl rfl rfl c8) (.skip (.no (d := 31) rfl rfl rfl c8) (.skip (.no (d := 31) rfl rfl rfl c8) (.run (.plain rfl) (opG_q (ev_pick_f rfl c8)) (.run (.plain rfl) (opG_q ev_move) (.skip (.no (d := 36) rfl rfl rfl rfl) (.skip (.no (d := 36) rfl rfl rfl rfl) (.skip (.no (d := 36) rfl rfl rfl rfl) (.run (.plain rfl) (opG_q (ev_pick_f rfl rfl)) (.run (.plain rfl) (opG_q ev_move) (.skip (.no (d := 41) rfl rfl rfl rfl) (.skip (.no (d := 41) rfl rfl rfl rfl) (.skip (.no (d := 41) rfl rfl rfl rfl) (.run (.plain rfl) (opG_q (ev_pick_f rfl rfl)) (.run (.plain rfl) (opG_q ev_move) (.skip (.no (d := 46) rfl rfl rfl rfl) (.skip (.no (d := 46) rfl rfl rfl rfl) .nil))))))))))))))))))))) rfl ?_
      refine awpl_no (d := 46) rfl rfl rfl rfl ?_
      refine awpl_op rfl (opTo_q (d := 50) rfl rfl (ev_pick_f rfl rfl)) ?_
      refine awpl_op rfl (opTo_q (d := 0) rfl rfl ev_assign) ?_
      refine awpl_nil ?_
      cases hr
      exact joinK_normal _ rfl (frLe_cons rfl frLe_nil) stoLe_nil
  · rintro _ rfl
    have hr := hy
    clear hx hy
    refine awp_ret ?_
    cases hr
    exact kret' rfl (.cons (res_tmp rfl) .nil) rfl
end Go.Proofs.Ytlpmbmilnoncdaa

/- A function of the program computes what its Lean function does. Written by program. -/
namespace Go.Proofs.Ytlpmbmilnoncdaa
open Go.RowKit
set_option maxRecDepth 100000
set_option maxHeartbeats 40000000
set_option linter.unusedVariables false
theorem R_Has_run (a0 : List Str) (a1 : Str) (r : Bool) (hr : R_Has a0 a1 = some r) : Run Try.prog 34 [.l cS a0, .s a1] (.bo r) := by
  unfold R_Has at hr
  refine run_of_awp (fn := Try.f34) ⟨Try.func34, rfl, by kernel_rfl⟩ rfl (fun _ => rfl) fun g0 hg => ?_
  refine awp_seq ?_
  refine awp_region ?_
  refine awpl_op rfl (opTo_q (d := 4) rfl rfl ev_assign) ?_
  refine awpl_nil ?_
  refine kthen_normal ?_
  refine awp_seq ?_
  refine awp_seq ?_
  refine awp_region ?_
  refine awpl_op rfl (opTo_q (d := 5) rfl rfl ev_assign) ?_
  refine awpl_nil ?_
  refine kthen_normal ?_
  refine awp_block ?_
  obtain ⟨o4, hl, hr⟩ := bind_some hr
  refine awp_loop (R_Has_l1 a0 a1) (fun s1 => [(0, .l cS a0), (1, .s a1), (5, .i s1)]) (fun s1 => []) (fun o => match o with | .inl b2 => At (.exit 0) [] [] | .inr b3 => At .ret [(4, .bo b3)] []) ?_ 0 hl (frLe_cons rfl (frLe_cons rfl (frLe_cons rfl frLe_nil))) stoLe_nil ?_
  · intro s1 x5 hr
    unfold R_Has_l1 at hr
    refine awp_seq ?_
    refine awp_seq ?_
    refine awp_region ?_
    refine awpl_op rfl (opTo_q (d := 6) rfl rfl ev_move) ?_
    refine awpl_op rfl (opTo_q (d := 7) rfl rfl ev_move) ?_
    refine awpl_op rfl (opTo_q (d := 8) rfl rfl (ev_llen (f := cS) rfl ty_s_string.u)) ?_
    refine awpl_op rfl (opTo_q (d := 9) rfl rfl (ev_lss rfl rfl)) ?_
    refine awpl_nil ?_
    refine kthen_normal ?_
    refine awp_cond rfl (fun c6 => ?_) (fun c6 => ?_)
    · replace hr := cond_t c6 hr
      refine awp_skip ?_
      refine kthen_normal ?_
      refine awp_seq ?_
      refine awp_block ?_
      refine awp_seq ?_
      refine awp_region ?_
      refine awpl_op rfl (opTo_q (d := 12) rfl rfl ev_move) ?_
      refine awpl_op rfl (opTo_q (d := 13) rfl rfl ev_move) ?_
      obtain ⟨v7, h8, hr⟩ := bind_some hr
      refine awpl_op rfl (opTo_q (d := 14) rfl rfl (ev_idx (f := cS) rfl rfl ty_s_string ty_string rfl h8)) ?_
      refine awpl_op rfl (opTo_q (d := 15) rfl rfl (ev_load_ep rfl ty_string rfl rfl)) ?_
      refine awpl_op rfl (opTo_q (d := 16) rfl rfl ev_move) ?_
      refine awpl_op rfl (opTo_q (d := 17) rfl rfl (ev_seql (a := v7) (b := a1) rfl rfl)) ?_
      refine awpl_nil ?_
      refine kthen_normal ?_
      refine awp_cond rfl (fun c9 => ?_) (fun c9 => ?_)
      · replace hr := cond_t c9 hr
        refine awp_seq ?_
        refine awp_region ?_
        refine awpl_op rfl (opTo_q (d := 4) rfl rfl ev_assign) ?_
        refine awpl_nil ?_
        refine kthen_normal ?_
        refine awp_ret ?_
        refine kblock_ret ?_
        refine kthen_ret ?_
        cases hr
        exact ⟨by simp, rfl, (frLe_cons rfl frLe_nil), stoLe_nil⟩
      · replace hr := cond_f c9 hr
        refine awp_skip ?_
        refine kblock_normal ?_
        refine kthen_normal ?_
        refine awp_region ?_
        refine awpl_op rfl (opTo_q (d := 10) rfl rfl ev_move) ?_
        refine awpl_op rfl (opTo_q (d := 11) rfl rfl (ev_add rfl rfl)) ?_
        refine awpl_op rfl (opTo_q (d := 5) rfl rfl ev_assign) ?_
        refine awpl_nil ?_
        cases hr
        exact ⟨rfl, (frLe_cons rfl (frLe_cons rfl (frLe_cons rfl frLe_nil))), stoLe_nil⟩
    · replace hr := cond_f c6 hr
      refine awp_exit ?_
      refine kthen_exit ?_
      cases hr
      exact ⟨by simp, rfl, frLe_nil, stoLe_nil⟩
  · intro e fr2 st2 hq
    rcases o4 with b2 | b3
    · obtain ⟨rfl, hf, hs⟩ := hq
      refine kblock_exit ?_
      refine kthen_normal ?_
      refine awp_le hf hs ?_
      refine awp_seq ?_
      refine awp_region ?_
      refine awpl_op rfl (opTo_q (d := 4) rfl rfl ev_assign) ?_
      refine awpl_nil ?_
      refine kthen_normal ?_
      refine awp_ret ?_
      cases hr
      exact kret' rfl (.cons (res_tmp rfl) .nil) rfl
    · obtain ⟨rfl, hf, hs⟩ := hq
      refine kblock_ret ?_
      refine kthen_ret ?_
      cases hr
      exact kret' rfl (.cons (res1_le hf hs (res_tmp rfl)) .nil) rfl
end Go.Proofs.Ytlpmbmilnoncdaa

/- A function of the program computes what its Lean function does. Written by program. -/
namespace Go.Proofs.Ytlpmbmilnoncdaa
open Go.RowKit
set_option maxRecDepth 100000
set_option maxHeartbeats 40000000
set_option linter.unusedVariables false
theorem L_AliasIsAFixedPoint_run (a0 : List TAlias) (a1 : Str) (r : Bool) (hr : L_AliasIsAFixedPoint a0 a1 = some r) : Run Try.prog 12 [.l TAlias.pc a0, .s a1] (.bo r) := by
  unfold L_AliasIsAFixedPoint at hr
  refine run_of_awp (fn := Try.f12) ⟨Try.func12, rfl, by kernel_rfl⟩ rfl (fun _ => rfl) fun g0 hg => ?_
  refine awp_seq ?_
  refine awp_region ?_
  refine awpl_op rfl (opTo_q (d := 4) rfl rfl ev_assign) ?_
  refine awpl_nil ?_
  refine kthen_normal ?_
  refine awp_seq ?_
  refine awp_region ?_
  refine awpl_op rfl (opTo_q (d := 16) rfl rfl ev_move) ?_
  refine awpl_op rfl (opTo_q (d := 17) rfl rfl ev_move) ?_
  obtain ⟨v1, h2, hr⟩ := bind_some hr
  refine awpl_op rfl (opTo_call (k := 18) (alias_Expand_run a0 a1 v1 h2) rfl rfl) ?_
  refine awpl_op rfl (opTo_q (d := 15) rfl rfl ev_move) ?_
  refine awpl_op rfl (opTo_q (d := 19) rfl rfl (ev_extract rfl rfl)) ?_
  refine awpl_op rfl (opTo_q (d := 20) rfl rfl (ev_extract rfl rfl)) ?_
  refine awpl_op rfl (opTo_alloc (k := 6) 6 rfl ty_api_Fault (.inr ⟨rfl, rfl⟩) rfl rfl rfl) ?_
  refine awpl_op rfl (opTo_q (d := 5) rfl rfl ev_assign) ?_
  refine awpl_op rfl (opTo_store rfl rfl rfl ty_api_Fault rfl rfl) ?_
  refine awpl_nil ?_
  refine kthen_normal ?_
  refine awp_seq ?_
  obtain ⟨j3, hx, hy⟩ := bind_some hr
  refine awp_join (fun j3 => [(0, .l TAlias.pc a0), (1, .s a1), (5, .l cS v1.1), (27, .bo j3)]) (fun j3 => []) (fun z => j3 = z) ?_ ?_
  · have hr := hx
    clear hx hy
    refine awp_region ?_
    obtain ⟨v4, h5, hr⟩ := bind_some hr
    refine awpl_op rfl (opTo_call (k := 21) (L_expands_run  v4 h5) rfl rfl) ?_
    refine awpl_op rfl (opTo_q (d := 22) rfl rfl (ev_not rfl)) ?_
    refine awpl_op rfl (opTo_q (d := 23) rfl rfl ev_move) ?_
    refine bool_split ((!v4)) (fun c6 => ?_) (fun c6 => ?_)
    · replace hr := cond_t c6 hr
      refine awpl_no (d := 23) rfl rfl rfl c6 ?_
      refine awpl_no (d := 23) rfl rfl rfl c6 ?_
      refine awpl_no (d := 23) rfl rfl rfl c6 ?_
      refine awpl_op rfl (opTo_q (d := 27) rfl rfl (ev_pick_t rfl c6)) ?_
      refine awpl_nil ?_
      cases hr
      exact joinK_normal _ rfl (frLe_cons rfl (frLe_cons rfl (frLe_cons rfl (frLe_cons rfl frLe_nil)))) stoLe_nil
    · replace hr := cond_f c6 hr
      refine awpl_yes (d := 23) rfl rfl rfl c6 (opTo_q (d := 24) rfl rfl (ev_fieldAddr rfl ty_api_Fault.u rfl ty_int rfl)) ?_
      refine awpl_yes (d := 23) rfl rfl rfl c6 (opTo_q (d := 25) rfl rfl (ev_load rfl rfl ty_int rfl rfl)) ?_
      refine awpl_yes (d := 23) rfl rfl rfl c6 (opTo_q (d := 26) rfl rfl (ev_neq rfl rfl)) ?_
      refine awpl_op rfl (opTo_q (d := 27) rfl rfl (ev_pick_f rfl c6)) ?_
      refine awpl_nil ?_
      cases hr
      exact joinK_normal _ rfl (frLe_cons rfl (frLe_cons rfl (frLe_cons rfl (frLe_cons rfl frLe_nil)))) stoLe_nil
  · rintro _ rfl
    have hr := hy
    clear hx hy
    refine awp_cond rfl (fun c7 => ?_) (fun c7 => ?_)
    · replace hr := cond_t c7 hr
      obtain ⟨j8, hx, hy⟩ := bind_some hr
      refine awp_join (fun j8 => [(4, .bo j8)]) (fun j8 => []) (fun z => j8 = z) ?_ ?_
      · have hr := hx
        clear hx hy
        refine awp_region ?_
        obtain ⟨v9, h10, hr⟩ := bind_some hr
        refine awpl_op rfl (opTo_call (k := 28) (L_expands_run  v9 h10) rfl rfl) ?_
        refine awpl_op rfl (opTo_q (d := 29) rfl rfl ev_move) ?_
        refine bool_split v9 (fun c11 => ?_) (fun c11 => ?_)
        · replace hr := cond_t c11 hr
          refine awpl_yes (d := 29) rfl rfl rfl c11 (opTo_q (d := 30) rfl rfl ev_move) ?_
          refine awpl_yes (d := 29) rfl rfl rfl c11 (opTo_q (d := 31) rfl rfl (ev_llen (f := cS) rfl ty_s_string.u)) ?_
          refine awpl_yes (d := 29) rfl rfl rfl c11 (opTo_q (d := 32) rfl rfl (ev_eql rfl rfl)) ?_
          refine awpl_op rfl (opTo_q (d := 33) rfl rfl (ev_pick_t rfl c11)) ?_
          refine awpl_op rfl (opTo_q (d := 4) rfl rfl ev_assign) ?_
          refine awpl_nil ?_
          cases hr
          exact joinK_normal _ rfl (frLe_cons rfl frLe_nil) stoLe_nil
        · replace hr := cond_f c11 hr
          refine awpl_no (d := 29) rfl rfl rfl c11 ?_
          refine awpl_no (d := 29) rfl rfl rfl c11 ?_
          refine awpl_no (d := 29) rfl rfl rfl c11 ?_
          refine awpl_op rfl (opTo_q (d := 33) rfl rfl (ev_pick_f rfl c11)) ?_
          refine awpl_op rfl (opTo_q (d := 4) rfl rfl ev_assign) ?_
          refine awpl_nil ?_
          cases hr
          exact joinK_normal _ rfl (frLe_cons rfl frLe_nil) stoLe_nil
      · rintro _ rfl
        have hr := hy
        clear hx hy
        refine awp_ret ?_
        refine kthen_ret ?_
        cases hr
        exact kret' rfl (.cons (res_tmp rfl) .nil) rfl
    · replace hr := cond_f c7 hr
      refine awp_skip ?_
      refine kthen_normal ?_
      refine awp_seq ?_
      refine awp_seq ?_
      refine awp_region ?_
      refine awpl_op rfl (opTo_q (d := 7) rfl rfl ev_assign) ?_
      refine awpl_nil ?_
      refine kthen_normal ?_
      refine awp_block ?_
      obtain ⟨o15, hl, hr⟩ := bind_some hr
      refine awp_loop (L_AliasIsAFixedPoint_l1 a0 v1) (fun s12 => [(0, .l TAlias.pc a0), (1, .s a1), (5, .l cS v1.1), (7, .i s12)]) (fun s12 => []) (fun o => match o with | .inl b13 => At (.exit 0) [(0, .l TAlias.pc a0), (1, .s a1), (5, .l cS v1.1)] [] | .inr b14 => At .ret [(4, .bo b14)] []) ?_ 0 hl (frLe_cons rfl (frLe_cons rfl (frLe_cons rfl (frLe_cons rfl frLe_nil)))) stoLe_nil ?_
      · intro s12 x16 hr
        unfold L_AliasIsAFixedPoint_l1 at hr
        refine awp_seq ?_
        refine awp_seq ?_
        refine awp_region ?_
        refine awpl_op rfl (opTo_q (d := 34) rfl rfl ev_move) ?_
        refine awpl_op rfl (opTo_q (d := 35) rfl rfl ev_move) ?_
        refine awpl_op rfl (opTo_q (d := 36) rfl rfl (ev_llen (f := cS) rfl ty_s_string.u)) ?_
        refine awpl_op rfl (opTo_q (d := 37) rfl rfl (ev_lss rfl rfl)) ?_
        refine awpl_nil ?_
        refine kthen_normal ?_
        refine awp_cond rfl (fun c17 => ?_) (fun c17 => ?_)
        · replace hr := cond_t c17 hr
          refine awp_skip ?_
          refine kthen_normal ?_
          refine awp_seq ?_
          refine awp_block ?_
          refine awp_seq ?_
          refine awp_region ?_
          refine awpl_op rfl (opTo_q (d := 41) rfl rfl ev_move) ?_
          refine awpl_op rfl (opTo_q (d := 42) rfl rfl ev_move) ?_
          refine awpl_op rfl (opTo_q (d := 43) rfl rfl ev_move) ?_
          obtain ⟨v18, h19, hr⟩ := bind_some hr
          refine awpl_op rfl (opTo_q (d := 44) rfl rfl (ev_idx (f := cS) rfl rfl ty_s_string ty_string rfl h19)) ?_
          refine awpl_op rfl (opTo_q (d := 45) rfl rfl (ev_load_ep rfl ty_string rfl rfl)) ?_
          obtain ⟨v20, h21, hr⟩ := bind_some hr
          refine awpl_op rfl (opTo_call (k := 46) (alias_Expand_run a0 v18 v20 h21) rfl rfl) ?_
          refine awpl_op rfl (opTo_q (d := 40) rfl rfl ev_move) ?_
          refine awpl_op rfl (opTo_q (d := 47) rfl rfl (ev_extract rfl rfl)) ?_
          refine awpl_op rfl (opTo_q (d := 48) rfl rfl (ev_extract rfl rfl)) ?_
          refine awpl_op rfl (opTo_alloc (k := 9) 9 rfl ty_api_Fault (.inr ⟨rfl, rfl⟩) rfl rfl rfl) ?_
          refine awpl_op rfl (opTo_q (d := 8) rfl rfl ev_assign) ?_
          refine awpl_op rfl (opTo_store rfl rfl rfl ty_api_Fault rfl rfl) ?_
          refine awpl_nil ?_
          refine kthen_normal ?_
          obtain ⟨j22, hx, hy⟩ := bind_some hr
          refine awp_join (fun j22 => [(0, .l TAlias.pc a0), (1, .s a1), (5, .l cS v1.1), (7, .i s12), (71, .bo j22)]) (fun j22 => []) (fun z => j22 = z) ?_ ?_
          · have hr := hx
            clear hx hy
            refine bool_split ((v20.2.Code != 0)) (fun c23 => ?_) (fun c23 => ?_)
            · replace hr := cond_t c23 hr
              refine awp_drawn 21 [(69, .tup []), (68, .tup []), (67, .tup []), (66, .tup []), (65, .tup []), (64, .tup []), (63, .tup []), (62, .bo true), (61, .bo true), (60, .tup []), (59, .tup []), (58, .tup []), (57, .tup []), (56, .tup []), (55, .tup []), (54, .tup []), (53, .tup []), (52, .bo ((v20.2.Code != 0))), (51, .bo ((v20.2.Code != 0))), (50, .i v20.2.Code), (49, .ptr 9 0)] mixed (by kernel_rfl) rfl rfl (.run (.plain rfl) (opG_q (ev_fieldAddr rfl ty_api_Fault.u rfl ty_int rfl)) (.run (.plain rfl) (opG_q (ev_load rfl rfl ty_int rfl rfl)) (.run (.plain rfl) (opG_q (ev_neq rfl rfl)) (.run (.plain rfl) (opG_q ev_move) (.skip (.no (d := 52) rfl rfl rfl c23) (.skip (.no (d := 52) rfl rfl rfl c23) (.skip (.no (d := 52) rfl rfl rfl c23) (.skip (.no (d := 52) rfl rfl rfl c23) (.skip (.no (d := 52) rfl rfl rfl c23) (.skip (.no (d := 52) rfl rfl rfl c23) (.skip (.no (d := 52) rfl rfl rfl c23) (.skip (.no (d := 52) rfl rfl rfl c23) (.run (.plain rfl) (opG_q (ev_pick_t rfl c23)) (.run (.plain rfl) (opG_q ev_move) (.skip (.no (d := 62) rfl rfl rfl rfl) (.skip (.no (d := 62) rfl rfl rfl rfl) (.skip (.no (d := 62) rfl rfl rfl rfl) (.skip (.no (d := 62) rfl rfl rfl rfl) (.skip (.no (d := 62) rfl rfl rfl rfl) (.skip (.no (d := 62) rfl rfl rfl rfl) (.skip (.no (d := 62) rfl rfl rfl rfl) .nil))))))))))))))))))))) rfl ?_
              refine awpl_no (d := 62) rfl rfl rfl rfl ?_
              refine awpl_op rfl (opTo_q (d := 71) rfl rfl (ev_pick_t rfl rfl)) ?_
              refine awpl_nil ?_
              cases hr
              exact joinK_normal _ rfl (frLe_cons rfl (frLe_cons rfl (frLe_cons rfl (frLe_cons rfl (frLe_cons rfl frLe_nil))))) stoLe_nil
            · replace hr := cond_f c23 hr
              obtain ⟨v24, h25, hr⟩ := bind_some hr
              obtain ⟨v26, h27, hr⟩ := bind_some hr
              refine bool_split ((!v26)) (fun c28 => ?_) (fun c28 => ?_)
              · replace hr := cond_t c28 hr
                refine awp_drawn 21 [(69, .tup []), (68, .tup []), (67, .tup []), (66, .tup []), (65, .tup []), (64, .tup []), (63, .tup []), (62, .bo ((!v26))), (61, .bo ((!v26))), (60, .bo ((!v26))), (59, .bo v26), (58, .l cS (([v24] : List Str))), (57, .s v24), (56, .ep [pS v24]), (55, .i s12), (54, .l cS v1.1), (53, .l cS v20.1), (52, .bo ((v20.2.Code != 0))), (51, .bo ((v20.2.Code != 0))), (50, .i v20.2.Code), (49, .ptr 9 0)] mixed (by kernel_rfl) rfl rfl (.run (.plain rfl) (opG_q (ev_fieldAddr rfl ty_api_Fault.u rfl ty_int rfl)) (.run (.plain rfl) (opG_q (ev_load rfl rfl ty_int rfl rfl)) (.run (.plain rfl) (opG_q (ev_neq rfl rfl)) (.run (.plain rfl) (opG_q ev_move) (.run (.yes (d := 52) rfl rfl rfl c23) (opG_q ev_move) (.run (.yes (d := 52) rfl rfl rfl c23) (opG_q ev_move) (.run (.yes (d := 52) rfl rfl rfl c23) (opG_q ev_move) (.run (.yes (d := 52) rfl rfl rfl c23) (opG_q (ev_idx (f := cS) rfl rfl ty_s_string ty_string rfl h25)) (.run (.yes (d := 52) rfl rfl rfl c23) (opG_q (ev_load_ep rfl ty_string rfl rfl)) (.run (.yes (d := 52) rfl rfl rfl c23) (opG_lit (F := cS) (l := ([v24] : List Str)) ty_s_string ty_string rfl (fun _ => rfl) rfl rfl) (.run (.yes (d := 52) rfl rfl rfl c23) (opG_call (R_Strings_run v20.1 (([v24] : List Str)) v26 h27) rfl) (.run (.yes (d := 52) rfl rfl rfl c23) (opG_q (ev_not rfl)) (.run (.plain rfl) (opG_q (ev_pick_f rfl c23)) (.run (.plain rfl) (opG_q ev_move) (.skip (.no (d := 62) rfl rfl rfl c28) (.skip (.no (d := 62) rfl rfl rfl c28) (.skip (.no (d := 62) rfl rfl rfl c28) (.skip (.no (d := 62) rfl rfl rfl c28) (.skip (.no (d := 62) rfl rfl rfl c28) (.skip (.no (d := 62) rfl rfl rfl c28) (.skip (.no (d := 62) rfl rfl rfl c28) .nil))))))))))))))))))))) rfl ?_
                refine awpl_no (d := 62) rfl rfl rfl c28 ?_
                refine awpl_op rfl (opTo_q (d := 71) rfl rfl (ev_pick_t rfl c28)) ?_
                refine awpl_nil ?_
                cases hr
                exact joinK_normal _ rfl (frLe_cons rfl (frLe_cons rfl (frLe_cons rfl (frLe_cons rfl (frLe_cons rfl frLe_nil))))) stoLe_nil
              · replace hr := cond_f c28 hr
                obtain ⟨v29, h30, hr⟩ := bind_some hr
                obtain ⟨v31, h32, hr⟩ := bind_some hr
                refine awp_drawn 21 [(69, .s v31), (68, .ep [pS v31]), (67, .i s12), (66, .l cS v1.1), (65, .l cS v29), (64, .i s12), (63, .l cS v1.1), (62, .bo ((!v26))), (61, .bo ((!v26))), (60, .bo ((!v26))), (59, .bo v26), (58, .l cS (([v24] : List Str))), (57, .s v24), (56, .ep [pS v24]), (55, .i s12), (54, .l cS v1.1), (53, .l cS v20.1), (52, .bo ((v20.2.Code != 0))), (51, .bo ((v20.2.Code != 0))), (50, .i v20.2.Code), (49, .ptr 9 0)] mixed (by kernel_rfl) rfl rfl (.run (.plain rfl) (opG_q (ev_fieldAddr rfl ty_api_Fault.u rfl ty_int rfl)) (.run (.plain rfl) (opG_q (ev_load rfl rfl ty_int rfl rfl)) (.run (.plain rfl) (opG_q (ev_neq rfl rfl)) (.run (.plain rfl) (opG_q ev_move) (.run (.yes (d := 52) rfl rfl rfl c23) (opG_q ev_move) (.run (.yes (d := 52) rfl rfl rfl c23) (opG_q ev_move) (.run (.yes (d := 52) rfl rfl rfl c23) (opG_q ev_move) (.run (.yes (d := 52) rfl rfl rfl c23) (opG_q (ev_idx (f := cS) rfl rfl ty_s_string ty_string rfl h25)) (.run (.yes (d := 52) rfl rfl rfl c23) (opG_q (ev_load_ep rfl ty_string rfl rfl)) (.run (.yes (d := 52) rfl rfl rfl c23) (opG_lit (F := cS) (l := ([v24] : List Str)) ty_s_string ty_string rfl (fun _ => rfl) rfl rfl) (.run (.yes (d := 52) rfl rfl rfl c23) (opG_call (R_Strings_run v20.1 (([v24] : List Str)) v26 h27) rfl) (.run (.yes (d := 52) rfl rfl rfl c23) (opG_q (ev_not rfl)) (.run (.plain rfl) (opG_q (ev_pick_f rfl c23)) (.run (.plain rfl) (opG_q ev_move) (.run (.yes (d := 62) rfl rfl rfl c28) (opG_q ev_move) (.run (.yes (d := 62) rfl rfl rfl c28) (opG_q ev_move) (.run (.yes (d := 62) rfl rfl rfl c28) (opG_q (ev_cutH (F := cS) rfl rfl ty_s_string ty_string (fun _ => rfl) h30)) (.run (.yes (d := 62) rfl rfl rfl c28) (opG_q ev_move) (.run (.yes (d := 62) rfl rfl rfl c28) (opG_q ev_move) (.run (.yes (d := 62) rfl rfl rfl c28) (opG_q (ev_idx (f := cS) rfl rfl ty_s_string ty_string rfl h32)) (.run (.yes (d := 62) rfl rfl rfl c28) (opG_q (ev_load_ep rfl ty_string rfl rfl)) .nil))))))))))))))))))))) rfl ?_
                obtain ⟨v33, h34, hr⟩ := bind_some hr
                refine awpl_yes (d := 62) rfl rfl rfl c28 (opTo_call (k := 70) (R_Has_run v29 v31 v33 h34) rfl rfl) ?_
                refine awpl_op rfl (opTo_q (d := 71) rfl rfl (ev_pick_f rfl c28)) ?_
                refine awpl_nil ?_
                cases hr
                exact joinK_normal _ rfl (frLe_cons rfl (frLe_cons rfl (frLe_cons rfl (frLe_cons rfl (frLe_cons rfl frLe_nil))))) stoLe_nil
          · rintro _ rfl
            have hr := hy
            clear hx hy
            refine awp_cond rfl (fun c35 => ?_) (fun c35 => ?_)
            · replace hr := cond_t c35 hr
              refine awp_seq ?_
              refine awp_region ?_
              refine awpl_op rfl (opTo_q (d := 4) rfl rfl ev_assign) ?_
              refine awpl_nil ?_
              refine kthen_normal ?_
              refine awp_ret ?_
              refine kblock_ret ?_
              refine kthen_ret ?_
              cases hr
              exact ⟨by simp, rfl, (frLe_cons rfl frLe_nil), stoLe_nil⟩
            · replace hr := cond_f c35 hr
              refine awp_skip ?_
              refine kblock_normal ?_
              refine kthen_normal ?_
              refine awp_region ?_
              refine awpl_op rfl (opTo_q (d := 38) rfl rfl ev_move) ?_
              refine awpl_op rfl (opTo_q (d := 39) rfl rfl (ev_add rfl rfl)) ?_
              refine awpl_op rfl (opTo_q (d := 7) rfl rfl ev_assign) ?_
              refine awpl_nil ?_
              cases hr
              exact ⟨rfl, (frLe_cons rfl (frLe_cons rfl (frLe_cons rfl (frLe_cons rfl frLe_nil)))), stoLe_nil⟩
        · replace hr := cond_f c17 hr
          refine awp_exit ?_
          refine kthen_exit ?_
          cases hr
          exact ⟨by simp, rfl, (frLe_cons rfl (frLe_cons rfl (frLe_cons rfl frLe_nil))), stoLe_nil⟩
      · intro e fr2 st2 hq
        rcases o15 with b13 | b14
        · obtain ⟨rfl, hf, hs⟩ := hq
          replace hr := elim_l hr
          refine kblock_exit ?_
          refine kthen_normal ?_
          refine awp_le hf hs ?_
          refine awp_seq ?_
          refine awp_seq ?_
          refine awp_region ?_
          refine awpl_op rfl (opTo_q (d := 10) rfl rfl ev_assign) ?_
          refine awpl_nil ?_
          refine kthen_normal ?_
          refine awp_block ?_
          obtain ⟨o39, hl, hr⟩ := bind_some hr
          refine awp_loop (L_AliasIsAFixedPoint_l2 a0 a1 v1) (fun s36 => [(0, .l TAlias.pc a0), (1, .s a1), (5, .l cS v1.1), (10, .i s36)]) (fun s36 => []) (fun o => match o with | .inl b37 => At (.exit 2) [] [] | .inr b38 => At .ret [(4, .bo b38)] []) ?_ 0 hl (frLe_cons rfl (frLe_cons rfl (frLe_cons rfl (frLe_cons rfl frLe_nil)))) stoLe_nil ?_
          · intro s36 x40 hr
            unfold L_AliasIsAFixedPoint_l2 at hr
            refine awp_seq ?_
            refine awp_seq ?_
            refine awp_region ?_
            refine awpl_op rfl (opTo_q (d := 72) rfl rfl ev_move) ?_
            refine awpl_op rfl (opTo_q (d := 73) rfl rfl ev_move) ?_
            refine awpl_op rfl (opTo_q (d := 74) rfl rfl (ev_llen (f := TAlias.pc) rfl ty_s_api_Alias.u)) ?_
            refine awpl_op rfl (opTo_q (d := 75) rfl rfl (ev_lss rfl rfl)) ?_
            refine awpl_nil ?_
            refine kthen_normal ?_
            refine awp_cond rfl (fun c41 => ?_) (fun c41 => ?_)
            · replace hr := cond_t c41 hr
              refine awp_skip ?_
              refine kthen_normal ?_
              refine awp_join (fun j42 => [(0, .l TAlias.pc a0), (1, .s a1), (5, .l cS v1.1), (10, .i s36)]) (fun j42 => []) (fun j42 => L_AliasIsAFixedPoint_k3 s36 j42 = some x40) ?_ ?_
              · skip
                refine awp_block ?_
                refine awp_seq ?_
                refine awp_seq ?_
                refine awp_region ?_
                refine awpl_op rfl (opTo_q (d := 78) rfl rfl ev_move) ?_
                refine awpl_op rfl (opTo_q (d := 79) rfl rfl ev_move) ?_
                obtain ⟨v43, h44, hr⟩ := bind_some hr
                refine awpl_op rfl (opTo_q (d := 80) rfl rfl (ev_idx (f := TAlias.pc) rfl rfl ty_s_api_Alias ty_api_Alias rfl h44)) ?_
                refine awpl_op rfl (opTo_q (d := 81) rfl rfl (ev_fieldAddr_ep rfl ty_api_Alias.u rfl ty_string rfl rfl)) ?_
                refine awpl_op rfl (opTo_q (d := 82) rfl rfl (ev_load_ep rfl ty_string rfl rfl)) ?_
                refine awpl_op rfl (opTo_q (d := 83) rfl rfl ev_move) ?_
                refine awpl_op rfl (opTo_q (d := 84) rfl rfl (ev_sneq (a := v43.Address) (b := a1) rfl rfl)) ?_
                refine awpl_nil ?_
                refine kthen_normal ?_
                refine awp_cond rfl (fun c45 => ?_) (fun c45 => ?_)
                · replace hr := cond_t c45 hr
                  refine awp_exit ?_
                  refine kthen_exit ?_
                  refine kblock_exit ?_
                  exact joinK_normal () hr (frLe_cons rfl (frLe_cons rfl (frLe_cons rfl (frLe_cons rfl frLe_nil)))) stoLe_nil
                · replace hr := cond_f c45 hr
                  refine awp_skip ?_
                  refine kthen_normal ?_
                  refine awp_seq ?_
                  refine awp_region ?_
                  refine awpl_op rfl (opTo_q (d := 11) rfl rfl ev_assign) ?_
                  refine awpl_nil ?_
                  refine kthen_normal ?_
                  refine awp_block ?_
                  obtain ⟨o49, hl, hr⟩ := bind_some hr
                  refine awp_loop (L_AliasIsAFixedPoint_l4 a0 v1 s36) (fun s46 => [(0, .l TAlias.pc a0), (1, .s a1), (5, .l cS v1.1), (10, .i s36), (11, .i s46)]) (fun s46 => []) (fun o => match o with | .inl b47 => At (.exit 4) [(0, .l TAlias.pc a0), (1, .s a1), (5, .l cS v1.1), (10, .i s36)] [] | .inr b48 => At .ret [(4, .bo b48)] []) ?_ 0 hl (frLe_cons rfl (frLe_cons rfl (frLe_cons rfl (frLe_cons rfl (frLe_cons rfl frLe_nil))))) stoLe_nil ?_
                  · intro s46 x50 hr
                    unfold L_AliasIsAFixedPoint_l4 at hr
                    refine awp_seq ?_
                    refine awp_seq ?_
                    refine awp_region ?_
                    refine awpl_op rfl (opTo_q (d := 85) rfl rfl ev_move) ?_
                    refine awpl_op rfl (opTo_q (d := 86) rfl rfl ev_move) ?_
                    refine awpl_op rfl (opTo_q (d := 87) rfl rfl ev_move) ?_
                    obtain ⟨v51, h52, hr⟩ := bind_some hr
                    refine awpl_op rfl (opTo_q (d := 88) rfl rfl (ev_idx (f := TAlias.pc) rfl rfl ty_s_api_Alias ty_api_Alias rfl h52)) ?_
                    refine awpl_op rfl (opTo_q (d := 89) rfl rfl (ev_fieldAddr_ep rfl ty_api_Alias.u rfl ty_s_string rfl rfl)) ?_
                    refine awpl_op rfl (opTo_q (d := 90) rfl rfl (ev_load_ep rfl ty_s_string rfl rfl)) ?_
                    refine awpl_op rfl (opTo_q (d := 91) rfl rfl (ev_llen (f := cS) rfl ty_s_string.u)) ?_
                    refine awpl_op rfl (opTo_q (d := 92) rfl rfl (ev_lss rfl rfl)) ?_
                    refine awpl_nil ?_
                    refine kthen_normal ?_
                    refine awp_cond rfl (fun c53 => ?_) (fun c53 => ?_)
                    · replace hr := cond_t c53 hr
                      refine awp_skip ?_
                      refine kthen_normal ?_
                      refine awp_seq ?_
                      refine awp_block ?_
                      refine awp_seq ?_
                      refine awp_region ?_
                      refine awpl_op rfl (opTo_q (d := 96) rfl rfl ev_move) ?_
                      refine awpl_op rfl (opTo_q (d := 97) rfl rfl ev_move) ?_
                      refine awpl_op rfl (opTo_q (d := 98) rfl rfl ev_move) ?_
                      obtain ⟨v54, h55, hr⟩ := bind_some hr
                      refine awpl_op rfl (opTo_q (d := 99) rfl rfl (ev_idx (f := TAlias.pc) rfl rfl ty_s_api_Alias ty_api_Alias rfl h55)) ?_
                      refine awpl_op rfl (opTo_q (d := 100) rfl rfl (ev_fieldAddr_ep rfl ty_api_Alias.u rfl ty_s_string rfl rfl)) ?_
                      refine awpl_op rfl (opTo_q (d := 101) rfl rfl (ev_load_ep rfl ty_s_string rfl rfl)) ?_
                      refine awpl_op rfl (opTo_q (d := 102) rfl rfl ev_move) ?_
                      obtain ⟨v56, h57, hr⟩ := bind_some hr
                      refine awpl_op rfl (opTo_q (d := 103) rfl rfl (ev_idx (f := cS) rfl rfl ty_s_string ty_string rfl h57)) ?_
                      refine awpl_op rfl (opTo_q (d := 104) rfl rfl (ev_load_ep rfl ty_string rfl rfl)) ?_
                      obtain ⟨v58, h59, hr⟩ := bind_some hr
                      refine awpl_op rfl (opTo_call (k := 105) (alias_Expand_run a0 v56 v58 h59) rfl rfl) ?_
                      refine awpl_op rfl (opTo_q (d := 95) rfl rfl ev_move) ?_
                      refine awpl_op rfl (opTo_q (d := 106) rfl rfl (ev_extract rfl rfl)) ?_
                      refine awpl_op rfl (opTo_q (d := 107) rfl rfl (ev_extract rfl rfl)) ?_
                      refine awpl_op rfl (opTo_alloc (k := 13) 13 rfl ty_api_Fault (.inr ⟨rfl, rfl⟩) rfl rfl rfl) ?_
                      refine awpl_op rfl (opTo_q (d := 12) rfl rfl ev_assign) ?_
                      refine awpl_op rfl (opTo_store rfl rfl rfl ty_api_Fault rfl rfl) ?_
                      refine awpl_nil ?_
                      refine kthen_normal ?_
                      refine awp_seq ?_
                      refine awp_seq ?_
                      refine awp_region ?_
                      refine awpl_op rfl (opTo_q (d := 108) rfl rfl (ev_fieldAddr rfl ty_api_Fault.u rfl ty_int rfl)) ?_
                      refine awpl_op rfl (opTo_q (d := 109) rfl rfl (ev_load rfl rfl ty_int rfl rfl)) ?_
                      refine awpl_op rfl (opTo_q (d := 110) rfl rfl (ev_neq rfl rfl)) ?_
                      refine awpl_nil ?_
                      refine kthen_normal ?_
                      refine awp_cond rfl (fun c60 => ?_) (fun c60 => ?_)
                      · replace hr := cond_t c60 hr
                        refine awp_seq ?_
                        refine awp_region ?_
                        refine awpl_op rfl (opTo_q (d := 4) rfl rfl ev_assign) ?_
                        refine awpl_nil ?_
                        refine kthen_normal ?_
                        refine awp_ret ?_
                        refine kthen_ret ?_
                        refine kblock_ret ?_
                        refine kthen_ret ?_
                        cases hr
                        exact ⟨by simp, rfl, (frLe_cons rfl frLe_nil), stoLe_nil⟩
                      · replace hr := cond_f c60 hr
                        refine awp_skip ?_
                        refine kthen_normal ?_
                        refine awp_seq ?_
                        refine awp_region ?_
                        refine awpl_op rfl (opTo_q (d := 14) rfl rfl ev_assign) ?_
                        refine awpl_nil ?_
                        refine kthen_normal ?_
                        refine awp_block ?_
                        obtain ⟨o64, hl, hr⟩ := bind_some hr
                        refine awp_loop (L_AliasIsAFixedPoint_l5 v1 v58) (fun s61 => [(0, .l TAlias.pc a0), (1, .s a1), (5, .l cS v1.1), (10, .i s36), (11, .i s46), (12, .l cS v58.1), (14, .i s61)]) (fun s61 => []) (fun o => match o with | .inl b62 => At (.exit 6) [(0, .l TAlias.pc a0), (1, .s a1), (5, .l cS v1.1), (10, .i s36), (11, .i s46)] [] | .inr b63 => At .ret [(4, .bo b63)] []) ?_ 0 hl (frLe_cons rfl (frLe_cons rfl (frLe_cons rfl (frLe_cons rfl (frLe_cons rfl (frLe_cons rfl (frLe_cons rfl frLe_nil))))))) stoLe_nil ?_
                        · intro s61 x65 hr
                          unfold L_AliasIsAFixedPoint_l5 at hr
                          refine awp_seq ?_
                          refine awp_seq ?_
                          refine awp_region ?_
                          refine awpl_op rfl (opTo_q (d := 111) rfl rfl ev_move) ?_
                          refine awpl_op rfl (opTo_q (d := 112) rfl rfl ev_move) ?_
                          refine awpl_op rfl (opTo_q (d := 113) rfl rfl (ev_llen (f := cS) rfl ty_s_string.u)) ?_
                          refine awpl_op rfl (opTo_q (d := 114) rfl rfl (ev_lss rfl rfl)) ?_
                          refine awpl_nil ?_
                          refine kthen_normal ?_
                          refine awp_cond rfl (fun c66 => ?_) (fun c66 => ?_)
                          · replace hr := cond_t c66 hr
                            refine awp_skip ?_
                            refine kthen_normal ?_
                            refine awp_seq ?_
                            refine awp_block ?_
                            refine awp_seq ?_
                            refine awp_region ?_
                            refine awpl_op rfl (opTo_q (d := 117) rfl rfl ev_move) ?_
                            refine awpl_op rfl (opTo_q (d := 118) rfl rfl ev_move) ?_
                            refine awpl_op rfl (opTo_q (d := 119) rfl rfl ev_move) ?_
                            obtain ⟨v67, h68, hr⟩ := bind_some hr
                            refine awpl_op rfl (opTo_q (d := 120) rfl rfl (ev_idx (f := cS) rfl rfl ty_s_string ty_string rfl h68)) ?_
                            refine awpl_op rfl (opTo_q (d := 121) rfl rfl (ev_load_ep rfl ty_string rfl rfl)) ?_
                            obtain ⟨v69, h70, hr⟩ := bind_some hr
                            refine awpl_op rfl (opTo_call (k := 122) (R_Has_run v1.1 v67 v69 h70) rfl rfl) ?_
                            refine awpl_op rfl (opTo_q (d := 123) rfl rfl (ev_not rfl)) ?_
                            refine awpl_nil ?_
                            refine kthen_normal ?_
                            refine awp_cond rfl (fun c71 => ?_) (fun c71 => ?_)
                            · replace hr := cond_t c71 hr
                              refine awp_seq ?_
                              refine awp_region ?_
                              refine awpl_op rfl (opTo_q (d := 4) rfl rfl ev_assign) ?_
                              refine awpl_nil ?_
                              refine kthen_normal ?_
                              refine awp_ret ?_
                              refine kblock_ret ?_
                              refine kthen_ret ?_
                              cases hr
                              exact ⟨by simp, rfl, (frLe_cons rfl frLe_nil), stoLe_nil⟩
                            · replace hr := cond_f c71 hr
                              refine awp_skip ?_
                              refine kblock_normal ?_
                              refine kthen_normal ?_
                              refine awp_region ?_
                              refine awpl_op rfl (opTo_q (d := 115) rfl rfl ev_move) ?_
                              refine awpl_op rfl (opTo_q (d := 116) rfl rfl (ev_add rfl rfl)) ?_
                              refine awpl_op rfl (opTo_q (d := 14) rfl rfl ev_assign) ?_
                              refine awpl_nil ?_
                              cases hr
                              exact ⟨rfl, (frLe_cons rfl (frLe_cons rfl (frLe_cons rfl (frLe_cons rfl (frLe_cons rfl (frLe_cons rfl (frLe_cons rfl frLe_nil))))))), stoLe_nil⟩
                          · replace hr := cond_f c66 hr
                            refine awp_exit ?_
                            refine kthen_exit ?_
                            cases hr
                            exact ⟨by simp, rfl, (frLe_cons rfl (frLe_cons rfl (frLe_cons rfl (frLe_cons rfl (frLe_cons rfl frLe_nil))))), stoLe_nil⟩
                        · intro e fr2 st2 hq
                          rcases o64 with b62 | b63
                          · obtain ⟨rfl, hf, hs⟩ := hq
                            replace hr := elim_l hr
                            refine kblock_exit ?_
                            refine kblock_normal ?_
                            refine kthen_normal ?_
                            refine awp_le hf hs ?_
                            refine awp_region ?_
                            refine awpl_op rfl (opTo_q (d := 93) rfl rfl ev_move) ?_
                            refine awpl_op rfl (opTo_q (d := 94) rfl rfl (ev_add rfl rfl)) ?_
                            refine awpl_op rfl (opTo_q (d := 11) rfl rfl ev_assign) ?_
                            refine awpl_nil ?_
                            cases hr
                            exact ⟨rfl, (frLe_cons rfl (frLe_cons rfl (frLe_cons rfl (frLe_cons rfl (frLe_cons rfl frLe_nil))))), stoLe_nil⟩
                          · obtain ⟨rfl, hf, hs⟩ := hq
                            replace hr := elim_r hr
                            refine kblock_ret ?_
                            refine kblock_ret ?_
                            refine kthen_ret ?_
                            cases hr
                            exact ⟨by simp, rfl, (frLe_trans hf (frLe_cons rfl frLe_nil)), (stoLe_trans hs stoLe_nil)⟩
                    · replace hr := cond_f c53 hr
                      refine awp_exit ?_
                      refine kthen_exit ?_
                      cases hr
                      exact ⟨by simp, rfl, (frLe_cons rfl (frLe_cons rfl (frLe_cons rfl (frLe_cons rfl frLe_nil)))), stoLe_nil⟩
                  · intro e fr2 st2 hq
                    rcases o49 with b47 | b48
                    · obtain ⟨rfl, hf, hs⟩ := hq
                      replace hr := elim_l hr
                      refine kblock_exit ?_
                      refine kblock_normal ?_
                      exact joinK_normal () hr (frLe_trans hf (frLe_cons rfl (frLe_cons rfl (frLe_cons rfl (frLe_cons rfl frLe_nil))))) (stoLe_trans hs stoLe_nil)
                    · obtain ⟨rfl, hf, hs⟩ := hq
                      replace hr := elim_r hr
                      refine kblock_ret ?_
                      refine kblock_ret ?_
                      refine joinK_ret ?_
                      cases hr
                      exact ⟨by simp, rfl, (frLe_trans hf (frLe_cons rfl frLe_nil)), (stoLe_trans hs stoLe_nil)⟩
              · intro j42 hr
                unfold L_AliasIsAFixedPoint_k3 at hr
                refine awp_region ?_
                refine awpl_op rfl (opTo_q (d := 76) rfl rfl ev_move) ?_
                refine awpl_op rfl (opTo_q (d := 77) rfl rfl (ev_add rfl rfl)) ?_
                refine awpl_op rfl (opTo_q (d := 10) rfl rfl ev_assign) ?_
                refine awpl_nil ?_
                cases hr
                exact ⟨rfl, (frLe_cons rfl (frLe_cons rfl (frLe_cons rfl (frLe_cons rfl frLe_nil)))), stoLe_nil⟩
            · replace hr := cond_f c41 hr
              refine awp_exit ?_
              refine kthen_exit ?_
              cases hr
              exact ⟨by simp, rfl, frLe_nil, stoLe_nil⟩
          · intro e fr2 st2 hq
            rcases o39 with b37 | b38
            · obtain ⟨rfl, hf, hs⟩ := hq
              replace hr := elim_l hr
              refine kblock_exit ?_
              refine kthen_normal ?_
              refine awp_le hf hs ?_
              refine awp_seq ?_
              refine awp_region ?_
              refine awpl_op rfl (opTo_q (d := 4) rfl rfl ev_assign) ?_
              refine awpl_nil ?_
              refine kthen_normal ?_
              refine awp_ret ?_
              cases hr
              exact kret' rfl (.cons (res_tmp rfl) .nil) rfl
            · obtain ⟨rfl, hf, hs⟩ := hq
              replace hr := elim_r hr
              refine kblock_ret ?_
              refine kthen_ret ?_
              cases hr
              exact kret' rfl (.cons (res1_le hf hs (res_tmp rfl)) .nil) rfl
        · obtain ⟨rfl, hf, hs⟩ := hq
          replace hr := elim_r hr
          refine kblock_ret ?_
          refine kthen_ret ?_
          cases hr
          exact kret' rfl (.cons (res1_le hf hs (res_tmp rfl)) .nil) rfl
end Go.Proofs.Ytlpmbmilnoncdaa

/- Small facts that all my walks use: endings, blocks, rows, frames. No program is named. -/
namespace Go.Proofs.Ytlpmbmilnoncdaa
open Go.RowKit

theorem ret_bool {a b : Bool} (h : a = b) : Ending.returned (.bool a) = .returned (.bool b) := by rw [h]
theorem ret_int {k : IntKind} {a b : Int} (h : a = b) : Ending.returned (.int k a) = .returned (.int k b) := by rw [h]

theorem take_all {α : Type} (p : α → Bool) (l : List α) (k : Nat) (h : k < l.length) : (l.take (k + 1)).all p = ((l.take k).all p && p l[k]) := by
  rw [List.take_succ_eq_append_getElem h, List.all_append]; simp
theorem all_false {α : Type} (p : α → Bool) (l : List α) (k : Nat) (h : k < l.length) (hp : p l[k] = false) : l.all p = false := by
  rw [List.all_eq_false]; exact ⟨l[k], List.getElem_mem h, by simp [hp]⟩

theorem bcell {W w1 : World} (hb : Below W.heap.size W w1) : (∀ b o, b < W.heap.size → w1.cell? ⟨b, o, none⟩ = W.cell? ⟨b, o, none⟩) ∧ (∀ b o, b < W.heap.size → w1.frozen? ⟨b, o, none⟩ = W.frozen? ⟨b, o, none⟩) :=
  ⟨fun b o h => hb.cell (p := ⟨b, o, none⟩) h, fun b o h => hb.frozen (p := ⟨b, o, none⟩) h⟩


/-- block b is just these cells, none frozen -/
def Blk (w : World) (b : Nat) (t : TypeId) (cs : Array Value) : Prop := w.heap[b]? = some (.cells cs t (0, 0))
theorem Blk.lt {w : World} {b : Nat} {t : TypeId} {cs : Array Value} (h : Blk w b t cs) : b < w.heap.size := by
  rcases Nat.lt_or_ge b w.heap.size with hlt | hge
  · exact hlt
  · unfold Blk at h; rw [Array.getElem?_eq_none hge] at h; cases h
theorem Blk.two {w : World} {b : Nat} {t : TypeId} {x y : Value} (h : Blk w b t #[x, y]) :
    w.cell? ⟨b, 0, none⟩ = some x ∧ w.cell? ⟨b, 1, none⟩ = some y ∧ w.frozen? ⟨b, 0, none⟩ = false ∧ w.frozen? ⟨b, 1, none⟩ = false ∧ b < w.heap.size := by
  refine ⟨?_, ?_, ?_, ?_, h.lt⟩ <;> unfold Blk at h <;> simp [World.cell?, World.frozen?, h]
theorem Blk.new (w : World) (t : TypeId) (cs : Array Value) : Blk (w.alloc (.cells cs t)) w.heap.size t cs := heap_alloc_new w _
theorem Blk.alloc {w : World} {b : Nat} {t : TypeId} {cs : Array Value} (h : Blk w b t cs) (o : Obj) : Blk (w.alloc o) b t cs := (Below.heap_alloc w o b h.lt).trans h
theorem Blk.below {w w' : World} {b : Nat} {t : TypeId} {cs : Array Value} {B : Nat} (h : Blk w b t cs) (hb : Below B w w') (hg : b < B) : Blk w' b t cs := (hb.block b hg).trans h

theorem val_int {k : IntKind} {a b : Int} (h : a = b) : Value.int k a = .int k b := by rw [h]
theorem tup3 {k : IntKind} {a b : Int} {x y : Value} (h : a = b) : Ending.returned (.tuple #[.int k a, x, y]) = .returned (.tuple #[.int k b, x, y]) := by rw [h]
section
variable {w1 w2 : World} {b t : Nat} {cs : Array Value} {o : Obj}
theorem Blk.step_new (hb : Below (w1.alloc (.cells cs t)).heap.size (w1.alloc (.cells cs t)) w2) : Blk w2 w1.heap.size t cs :=
  (Blk.new w1 t cs).below hb (by simp)
theorem Blk.step_old (h : Blk w1 b t cs) (hb : Below (w1.alloc o).heap.size (w1.alloc o) w2) : Blk w2 b t cs :=
  (h.alloc o).below hb (by have := h.lt; simp; omega)
end
theorem below_step {w w1 w2 : World} {o : Obj} (h : Below w.heap.size w w1) (hb : Below (w1.alloc o).heap.size (w1.alloc o) w2) : Below w.heap.size w w2 :=
  (h.alloc h.size o).trans (hb.mono (by have := h.size; simp; omega))
theorem below_trans {w w1 w2 : World} (h : Below w.heap.size w w1) (hb : Below w1.heap.size w1 w2) : Below w.heap.size w w2 :=
  h.trans (hb.mono h.size)

theorem keep2 {W w5 w6 : World} {b : Nat} {x y : Value} (h : w5.cell? ⟨b, 0, none⟩ = some x ∧ w5.cell? ⟨b, 1, none⟩ = some y ∧ Below W.heap.size W w5) (hb : b < W.heap.size) (k : Below w5.heap.size w5 w6) :
    w6.cell? ⟨b, 0, none⟩ = some x ∧ w6.cell? ⟨b, 1, none⟩ = some y ∧ Below W.heap.size W w6 := by
  have hs := h.2.2.size
  exact ⟨(k.cell (p := ⟨b, 0, none⟩) (Nat.lt_of_lt_of_le hb hs)).trans h.1, (k.cell (p := ⟨b, 1, none⟩) (Nat.lt_of_lt_of_le hb hs)).trans h.2.1, below_trans h.2.2 k⟩

/-- a slice of cells, one a value: it holds these values -/
def Row (w : World) (a : Option Addr) (len : Nat) (vs : List Value) : Prop :=
  vs.length = len ∧ (len = 0 ∨ ∃ b off, a = some ⟨b, off, none⟩ ∧ ∀ i v, vs[i]? = some v → w.cell? ⟨b, off + i, none⟩ = some v)


end Go.Proofs.Ytlpmbmilnoncdaa
