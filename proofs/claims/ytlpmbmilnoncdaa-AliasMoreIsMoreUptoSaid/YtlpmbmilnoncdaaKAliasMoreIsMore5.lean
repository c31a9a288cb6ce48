/- The law AliasMoreIsMore holds for every input of bulk up to the given bound: it returns true and leaves its arguments as they were. Written by program. -/
import Derived.Test.YtlpmbmilnoncdaaKAliasMoreIsMore4
import Derived.WalkKit
import Derived.WalkSpells
import Derived.WalkLawsBesides
import Derived.Deep.QuietTactic
import Derived.BigQuiet
import Derived.Lib.Hide
import Derived.Handy
import Derived.Deep.RegionHeld3
import Derived.Test.YtlpmbmilnoncdaaRows
import Derived.ProofKit
import Derived.OpenShut
import Derived.ShutString
import Derived.ChangeOld
import Derived.Below
import Derived.JoinedCond
import Derived.HandedShaped
import Derived.Shelf.Vars
/- A function of the program computes what its Lean function does. Written by program. -/
namespace Go.Proofs.Ytlpmbmilnoncdaa
open Go.RowKit
set_option maxRecDepth 100000
set_option maxHeartbeats 40000000
set_option linter.unusedVariables false
theorem alias_Expand_run (a0 : List TAlias) (a1 : Str) (r : (List Str) × TFault) (hr : alias_Expand a0 a1 = some r) : Run Try.prog 28 [.l TAlias.pc a0, .s a1] (.tup [.l cS r.1, .agg [.i r.2.Code, .i r.2.Index]]) := by
  unfold alias_Expand at hr
  refine run_of_awp (fn := Try.f28) ⟨Try.func28, rfl, by kernel_rfl⟩ rfl (fun _ => rfl) fun g0 hg => ?_
  refine awp_seq ?_
  refine awp_region ?_
  refine awpl_op rfl (opTo_q (d := 4) rfl rfl ev_assign) ?_
  refine awpl_op rfl (opTo_alloc (k := 5) 5 rfl ty_api_Fault (.inr ⟨rfl, rfl⟩) rfl rfl rfl) ?_
  refine awpl_nil ?_
  refine kthen_normal ?_
  refine awp_seq ?_
  refine awp_seq ?_
  refine awp_region ?_
  refine awpl_op rfl (opTo_q (d := 10) rfl rfl ev_move) ?_
  obtain ⟨v1, h2, hr⟩ := bind_some hr
  refine awpl_op rfl (opTo_call (k := 11) (alias_Validate_run a0 v1 h2) rfl rfl) ?_
  refine awpl_op rfl (opTo_alloc (k := 6) 6 rfl ty_api_Fault (.inr ⟨rfl, rfl⟩) rfl rfl rfl) ?_
  refine awpl_op rfl (opTo_store rfl rfl rfl ty_api_Fault rfl rfl) ?_
  refine awpl_nil ?_
  refine kthen_normal ?_
  refine awp_seq ?_
  refine awp_region ?_
  refine awpl_op rfl (opTo_q (d := 12) rfl rfl (ev_loadN rfl rfl ty_api_Fault rfl rfl)) ?_
  obtain ⟨v3, h4, hr⟩ := bind_some hr
  refine awpl_op rfl (opTo_call (k := 13) (basic_Failed_run v1 v3 h4) rfl rfl) ?_
  refine awpl_nil ?_
  refine kthen_normal ?_
  refine awp_cond rfl (fun c5 => ?_) (fun c5 => ?_)
  · replace hr := cond_t c5 hr
    refine awp_seq ?_
    refine awp_drawn 2 [(4, .pv (.sl (some true) [])), (14, .agg [.i v1.Code, .i v1.Index])] mixed (by kernel_rfl) rfl rfl (.run (.plain rfl) (opG_q (ev_loadN rfl rfl ty_api_Fault rfl rfl)) (.run (.plain rfl) (opG_q ev_assign) .nil)) rfl ?_
    refine awpl_op rfl (opTo_store rfl rfl rfl ty_api_Fault rfl rfl) ?_
    refine awpl_nil ?_
    refine kthen_normal ?_
    refine awp_ret ?_
    refine kthen_ret ?_
    cases hr
    exact kret' rfl (.cons (res_tmp rfl) (.cons (res_cellN rfl rfl ty_api_Fault rfl rfl) .nil)) rfl
  · replace hr := cond_f c5 hr
    refine awp_skip ?_
    refine kthen_normal ?_
    refine awp_seq ?_
    refine awp_seq ?_
    refine awp_region ?_
    refine awpl_op rfl (opTo_q (d := 15) rfl rfl ev_move) ?_
    obtain ⟨v6, h7, hr⟩ := bind_some hr
    refine awpl_op rfl (opTo_call (k := 16) (envelope_Address_run a1 v6 h7) rfl rfl) ?_
    refine awpl_op rfl (opTo_q (d := 17) rfl rfl (ev_not rfl)) ?_
    refine awpl_nil ?_
    refine kthen_normal ?_
    refine awp_cond rfl (fun c8 => ?_) (fun c8 => ?_)
    · replace hr := cond_t c8 hr
      refine awp_seq ?_
      refine awp_region ?_
      obtain ⟨v9, h10, hr⟩ := bind_some hr
      refine awpl_op rfl (opTo_call (k := 18) (basic_Fault_run 10 ((-2)) v9 h10) rfl rfl) ?_
      refine awpl_op rfl (opTo_q (d := 4) rfl rfl ev_assign) ?_
      refine awpl_op rfl (opTo_store rfl rfl rfl ty_api_Fault rfl rfl) ?_
      refine awpl_nil ?_
      refine kthen_normal ?_
      refine awp_ret ?_
      refine kthen_ret ?_
      cases hr
      exact kret' rfl (.cons (res_tmp rfl) (.cons (res_cellN rfl rfl ty_api_Fault rfl rfl) .nil)) rfl
    · replace hr := cond_f c8 hr
      refine awp_skip ?_
      refine kthen_normal ?_
      refine awp_seq ?_
      refine awp_region ?_
      refine awpl_op rfl (opTo_q (d := 19) rfl rfl ev_move) ?_
      refine awpl_inl (fn := Try.f47) (args := [.l TAlias.pc a0]) 100000 199999 [(0, .l TAlias.pc a0), (1, .s a1), (5, .ptr 5 0)] (wanted_plain rfl) rfl ⟨Try.func47, rfl, by kernel_rfl⟩ rfl rfl (.cons rfl (.cons rfl (.cons rfl .nil))) fun T1 ds1 hT1 => ?_
      refine awp_seq ?_
      refine awp_region ?_
      refine awpl_op rfl (opTo_q (d := 2) rfl rfl ev_assign) ?_
      refine awpl_nil ?_
      refine kthen_normal ?_
      refine awp_seq ?_
      refine awp_region ?_
      refine awpl_op rfl (opTo_makeMap (k0 := 6) 1006 false rfl rfl rfl) ?_
      refine awpl_op rfl (opTo_q (d := 3) rfl rfl ev_assign) ?_
      refine awpl_nil ?_
      refine kthen_normal ?_
      refine awp_seq ?_
      refine awp_seq ?_
      refine awp_region ?_
      refine awpl_op rfl (opTo_q (d := 7) rfl rfl ev_move) ?_
      refine awpl_op rfl (opTo_q (d := 8) rfl rfl (ev_llen (f := TAlias.pc) rfl ty_s_api_Alias.u)) ?_
      refine awpl_op rfl (opTo_q (d := 9) rfl rfl ev_move) ?_
      refine awpl_nil ?_
      refine kthen_normal ?_
      refine awp_block ?_
      obtain ⟨b12, hl, hr⟩ := bind_some hr
      refine awp_loop (alias_Expand_l1 a0) (fun s11 => [(3, .mp 1006), (7, .l TAlias.pc a0), (8, .i ((a0.length : Int))), (9, .i s11.1)]) (fun s11 => [(1006, .mapo false (menc keyS (cL cS) s11.2)), (199999, .sus g0.w.heap.size ds1), (100000, .hold (.l TAlias.pc a0) (T1.getD 0 undef)), (100001, .hold (.s a1) (T1.getD 1 undef)), (100005, .hold (.ptr 5 0) (T1.getD 5 undef)), (5, .cells [.i 0, .i 0])]) (fun b12 => At (.exit 0) [(3, .mp 1006)] [(1006, .mapo false (menc keyS (cL cS) b12)), (199999, .sus g0.w.heap.size ds1), (100000, .hold (.l TAlias.pc a0) (T1.getD 0 undef)), (100001, .hold (.s a1) (T1.getD 1 undef)), (100005, .hold (.ptr 5 0) (T1.getD 5 undef)), (5, .cells [.i 0, .i 0])]) ?_ ((0, ([] : List (Str × (List Str))))) hl (frLe_cons rfl (frLe_cons rfl (frLe_cons rfl (frLe_cons rfl frLe_nil)))) (stoLe_cons rfl (stoLe_cons rfl (stoLe_cons rfl (stoLe_cons rfl (stoLe_cons rfl (stoLe_cons rfl stoLe_nil)))))) ?_
      · intro s11 x13 hr
        unfold alias_Expand_l1 at hr
        refine awp_seq ?_
        refine awp_region ?_
        refine awpl_op rfl (opTo_q (d := 10) rfl rfl (ev_lss rfl rfl)) ?_
        refine awpl_nil ?_
        refine kthen_normal ?_
        refine awp_seq ?_
        refine awp_cond rfl (fun c14 => ?_) (fun c14 => ?_)
        · replace hr := cond_t c14 hr
          refine awp_skip ?_
          refine kthen_normal ?_
          refine awp_seq ?_
          refine awp_block ?_
          refine awp_seq ?_
          refine awp_region ?_
          obtain ⟨v15, h16, hr⟩ := bind_some hr
          refine awpl_op rfl (opTo_q (d := 11) rfl rfl (ev_idx (f := TAlias.pc) rfl rfl ty_s_api_Alias ty_api_Alias rfl h16)) ?_
          refine awpl_op rfl (opTo_q (d := 12) rfl rfl (ev_load_epN rfl ty_api_Alias rfl rfl)) ?_
          refine awpl_op rfl (opTo_alloc (k := 5) 1005 rfl ty_api_Alias (.inr ⟨rfl, rfl⟩) rfl rfl rfl) ?_
          refine awpl_op rfl (opTo_store rfl rfl rfl ty_api_Alias rfl rfl) ?_
          refine awpl_nil ?_
          refine kthen_normal ?_
          refine awp_region ?_
          refine awpl_op rfl (opTo_q (d := 13) rfl rfl ev_move) ?_
          refine awpl_op rfl (opTo_q (d := 14) rfl rfl (ev_fieldAddr rfl ty_api_Alias.u rfl ty_string rfl)) ?_
          refine awpl_op rfl (opTo_q (d := 15) rfl rfl (ev_load rfl rfl ty_string rfl rfl)) ?_
          refine awpl_op rfl (opTo_q (d := 16) rfl rfl (ev_fieldAddr rfl ty_api_Alias.u rfl ty_s_string rfl)) ?_
          refine awpl_op rfl (opTo_q (d := 17) rfl rfl (ev_load rfl rfl ty_s_string rfl rfl)) ?_
          refine awpl_op rfl (opTo_mapUpdate (KK := keyS) (F := (cL cS)) (es := s11.2) (k := v15.Address) (v := v15.To) rfl rfl rfl rfl rfl ty_map_string_s_string.u ty_string.u) ?_
          refine awpl_nil ?_
          refine kblock_normal ?_
          refine kthen_normal ?_
          refine awp_region ?_
          refine awpl_op rfl (opTo_q (d := 18) rfl rfl (ev_add rfl rfl)) ?_
          refine awpl_op rfl (opTo_q (d := 9) rfl rfl ev_move) ?_
          refine awpl_nil ?_
          cases hr
          exact ⟨rfl, (frLe_cons rfl (frLe_cons rfl (frLe_cons rfl (frLe_cons rfl frLe_nil)))), (stoLe_cons rfl (stoLe_cons rfl (stoLe_cons rfl (stoLe_cons rfl (stoLe_cons rfl (stoLe_cons rfl stoLe_nil))))))⟩
        · replace hr := cond_f c14 hr
          refine awp_exit ?_
          refine kthen_exit ?_
          cases hr
          exact ⟨by simp, rfl, (frLe_cons rfl frLe_nil), (stoLe_cons rfl (stoLe_cons rfl (stoLe_cons rfl (stoLe_cons rfl (stoLe_cons rfl (stoLe_cons rfl stoLe_nil))))))⟩
      · intro e fr2 st2 hq
        obtain ⟨rfl, hf, hs⟩ := hq
        refine kblock_exit ?_
        refine kthen_normal ?_
        refine awp_le hf hs ?_
        refine awp_seq ?_
        refine awp_region ?_
        refine awpl_op rfl (opTo_q (d := 19) rfl rfl ev_move) ?_
        refine awpl_op rfl (opTo_q (d := 2) rfl rfl ev_assign) ?_
        refine awpl_nil ?_
        refine kthen_normal ?_
        refine awp_ret ?_
        refine inlK (cs := [.mp 1006]) (fr'' := [(0, .l TAlias.pc a0), (1, .s a1), (5, .ptr 5 0)]) (σ'' := [(1006, .mapo false (menc keyS (cL cS) b12)), (5, .cells [.i 0, .i 0])]) (.inl rfl) frLe_refl stoLe_refl (.cons (res_tmp rfl) .nil) (.cons rfl (.cons rfl (.cons rfl .nil))) rfl (stoLe_cons rfl (stoLe_cons rfl stoLe_nil)) ?_
        refine awpl_op rfl (opTo_alloc (k := 7) 7 rfl ty_map_string_s_string (.inl rfl) rfl rfl rfl) ?_
        refine awpl_op rfl (opTo_store rfl rfl rfl ty_map_string_s_string rfl rfl) ?_
        refine awpl_nil ?_
        refine kthen_normal ?_
        refine awp_seq ?_
        refine awp_region ?_
        refine awpl_op rfl (opTo_alloc (k := 8) 8 rfl ty_s_string (.inl rfl) rfl rfl rfl) ?_
        refine awpl_adoptC 1008 (o := 8) (j := 0) 9 1 rfl rfl rfl rfl ?_
        refine awpl_nil ?_
        refine kthen_normal ?_
        refine awp_seq ?_
        refine awp_seq ?_
        refine awp_region ?_
        refine awpl_op rfl (opTo_q (d := 21) rfl rfl ev_move) ?_
        refine awpl_op rfl (opTo_q (d := 22) rfl rfl ev_move) ?_
        refine awpl_op rfl (opTo_g (d := 23) rfl rfl (opG_lit (F := cS) (l := ([a1] : List Str)) ty_s_string ty_string rfl (fun _ => rfl) rfl rfl)) ?_
        refine awpl_inl (fn := Try.f48) (args := [.l TAlias.pc a0, .l cS (([a1] : List Str))]) 1500000 1599999 [(5, .ptr 5 0), (7, .ptr 7 0), (8, .ptr 8 0)] (wanted_plain rfl) rfl ⟨Try.func48, rfl, by kernel_rfl⟩ rfl rfl (.cons rfl (.cons rfl (.cons rfl .nil))) fun T15 ds15 hT15 => ?_
        refine awp_seq ?_
        refine awp_region ?_
        refine awpl_op rfl (opTo_box (k := 2) 2 rfl rfl rfl rfl rfl) ?_
        refine awpl_op rfl (opTo_box (k := 3) 3 rfl rfl rfl rfl rfl) ?_
        refine awpl_op rfl (opTo_q (d := 4) rfl rfl ev_assign) ?_
        refine awpl_nil ?_
        refine kthen_normal ?_
        refine awp_seq ?_
        refine awp_region ?_
        refine awpl_op rfl (opTo_q (d := 5) rfl rfl (ev_makeFunc rfl rfl)) ?_
        refine awpl_op rfl (opTo_q (d := 4) rfl rfl ev_assign) ?_
        refine awpl_nil ?_
        refine kthen_normal ?_
        refine awp_ret ?_
        refine inlK (cs := [.fn (.func 61) [] [.ptr 2 0, .ptr 3 0]]) (fr'' := [(5, .ptr 5 0), (7, .ptr 7 0), (8, .ptr 8 0)]) (σ'' := [(3, .cells [.l cS (([a1] : List Str))]), (2, .cells [.l TAlias.pc a0]), (1008, .row 9 false 1 (List.map cS (([] : List Str)))), (8, .cells [.hs 1008 0]), (7, .cells [.mp 1006]), (1006, .mapo false (menc keyS (cL cS) b12)), (5, .cells [.i 0, .i 0])]) (.inl rfl) frLe_refl stoLe_refl (.cons (res_tmp rfl) .nil) (.cons rfl (.cons rfl (.cons rfl .nil))) rfl (stoLe_cons rfl (stoLe_cons rfl (stoLe_cons rfl (stoLe_cons rfl (stoLe_cons rfl (stoLe_cons rfl (stoLe_cons rfl stoLe_nil))))))) ?_
        refine awpl_nil ?_
        refine kthen_normal ?_
        refine awp_block ?_
        refine awp_rangef (fn0 := Try.f61) 1600000 1699998 1699999 [(5, .ptr 5 0), (7, .ptr 7 0), (8, .ptr 8 0), (24, .fn (.func 61) [] [.ptr 2 0, .ptr 3 0])] rfl rfl rfl ⟨Try.func61, rfl, by kernel_rfl⟩ rfl rfl rfl rfl rfl (.cons rfl (.cons rfl (.cons rfl (.cons rfl .nil)))) fun T16 b16 L16 ds16 hT16 hLs16 hLp16 hLt16 hLq16 hLa16 hLb16 => ?_
        refine awp_seq ?_
        refine awp_region ?_
        refine awpl_op rfl (opTo_q (d := 9) rfl rfl (ev_load rfl rfl ty_s_api_Alias rfl rfl)) ?_
        refine awpl_inl (fn := Try.f47) (args := [.l TAlias.pc a0]) 1700000 1799999 [(0, .fn (.yield b16) [] []), (2, .ptr 3 0)] (wanted_plain rfl) rfl ⟨Try.func47, rfl, by kernel_rfl⟩ rfl rfl (.cons rfl (.cons rfl .nil)) fun T17 ds17 hT17 => ?_
        refine awp_seq ?_
        refine awp_region ?_
        refine awpl_op rfl (opTo_q (d := 2) rfl rfl ev_assign) ?_
        refine awpl_nil ?_
        refine kthen_normal ?_
        refine awp_seq ?_
        refine awp_region ?_
        refine awpl_op rfl (opTo_makeMap (k0 := 6) 2006 false rfl rfl rfl) ?_
        refine awpl_op rfl (opTo_q (d := 3) rfl rfl ev_assign) ?_
        refine awpl_nil ?_
        refine kthen_normal ?_
        refine awp_seq ?_
        refine awp_seq ?_
        refine awp_region ?_
        refine awpl_op rfl (opTo_q (d := 7) rfl rfl ev_move) ?_
        refine awpl_op rfl (opTo_q (d := 8) rfl rfl (ev_llen (f := TAlias.pc) rfl ty_s_api_Alias.u)) ?_
        refine awpl_op rfl (opTo_q (d := 9) rfl rfl ev_move) ?_
        refine awpl_nil ?_
        refine kthen_normal ?_
        refine awp_block ?_
        obtain ⟨b18, hl, hr⟩ := bind_some hr
        refine awp_loop (alias_Expand_l2 a0) (fun s17 => [(3, .mp 2006), (7, .l TAlias.pc a0), (8, .i ((a0.length : Int))), (9, .i s17.1)]) (fun s17 => [(2006, .mapo false (menc keyS (cL cS) s17.2)), (1799999, .sus g0.w.heap.size ds17), (1700000, .hold (.fn (.yield b16) [] []) (T17.getD 0 undef)), (1700002, .hold (.ptr 3 0) (T17.getD 2 undef)), (1699999, .sus g0.w.heap.size ds16), (1699998, .lp b16 L16), (1600005, .hold (.ptr 5 0) (T16.getD 5 undef)), (1600007, .hold (.ptr 7 0) (T16.getD 7 undef)), (1600008, .hold (.ptr 8 0) (T16.getD 8 undef)), (1600024, .hold (.fn (.func 61) [] [.ptr 2 0, .ptr 3 0]) (T16.getD 24 undef)), (3, .cells [.l cS (([a1] : List Str))]), (2, .cells [.l TAlias.pc a0]), (1008, .row 9 false 1 (List.map cS (([] : List Str)))), (8, .cells [.hs 1008 0]), (7, .cells [.mp 1006]), (1006, .mapo false (menc keyS (cL cS) b12)), (5, .cells [.i 0, .i 0])]) (fun b18 => At (.exit 0) [(3, .mp 2006)] [(2006, .mapo false (menc keyS (cL cS) b18)), (1799999, .sus g0.w.heap.size ds17), (1700000, .hold (.fn (.yield b16) [] []) (T17.getD 0 undef)), (1700002, .hold (.ptr 3 0) (T17.getD 2 undef)), (1699999, .sus g0.w.heap.size ds16), (1699998, .lp b16 L16), (1600005, .hold (.ptr 5 0) (T16.getD 5 undef)), (1600007, .hold (.ptr 7 0) (T16.getD 7 undef)), (1600008, .hold (.ptr 8 0) (T16.getD 8 undef)), (1600024, .hold (.fn (.func 61) [] [.ptr 2 0, .ptr 3 0]) (T16.getD 24 undef)), (3, .cells [.l cS (([a1] : List Str))]), (2, .cells [.l TAlias.pc a0]), (1008, .row 9 false 1 (List.map cS (([] : List Str)))), (8, .cells [.hs 1008 0]), (7, .cells [.mp 1006]), (1006, .mapo false (menc keyS (cL cS) b12)), (5, .cells [.i 0, .i 0])]) ?_ ((0, ([] : List (Str × (List Str))))) hl (frLe_cons rfl (frLe_cons rfl (frLe_cons rfl (frLe_cons rfl frLe_nil)))) (stoLe_cons rfl (stoLe_cons rfl (stoLe_cons rfl (stoLe_cons rfl (stoLe_cons rfl (stoLe_cons rfl (stoLe_cons rfl (stoLe_cons rfl (stoLe_cons rfl (stoLe_cons rfl (stoLe_cons rfl (stoLe_cons rfl (stoLe_cons rfl (stoLe_cons rfl (stoLe_cons rfl (stoLe_cons rfl (stoLe_cons rfl stoLe_nil))))))))))))))))) ?_
        · intro s17 x19 hr
          unfold alias_Expand_l2 at hr
          refine awp_seq ?_
          refine awp_region ?_
          refine awpl_op rfl (opTo_q (d := 10) rfl rfl (ev_lss rfl rfl)) ?_
          refine awpl_nil ?_
          refine kthen_normal ?_
          refine awp_seq ?_
          refine awp_cond rfl (fun c20 => ?_) (fun c20 => ?_)
          · replace hr := cond_t c20 hr
            refine awp_skip ?_
            refine kthen_normal ?_
            refine awp_seq ?_
            refine awp_block ?_
            refine awp_seq ?_
            refine awp_region ?_
            obtain ⟨v21, h22, hr⟩ := bind_some hr
            refine awpl_op rfl (opTo_q (d := 11) rfl rfl (ev_idx (f := TAlias.pc) rfl rfl ty_s_api_Alias ty_api_Alias rfl h22)) ?_
            refine awpl_op rfl (opTo_q (d := 12) rfl rfl (ev_load_epN rfl ty_api_Alias rfl rfl)) ?_
            refine awpl_op rfl (opTo_alloc (k := 5) 1005 rfl ty_api_Alias (.inr ⟨rfl, rfl⟩) rfl rfl rfl) ?_
            refine awpl_op rfl (opTo_store rfl rfl rfl ty_api_Alias rfl rfl) ?_
            refine awpl_nil ?_
            refine kthen_normal ?_
            refine awp_region ?_
            refine awpl_op rfl (opTo_q (d := 13) rfl rfl ev_move) ?_
            refine awpl_op rfl (opTo_q (d := 14) rfl rfl (ev_fieldAddr rfl ty_api_Alias.u rfl ty_string rfl)) ?_
            refine awpl_op rfl (opTo_q (d := 15) rfl rfl (ev_load rfl rfl ty_string rfl rfl)) ?_
            refine awpl_op rfl (opTo_q (d := 16) rfl rfl (ev_fieldAddr rfl ty_api_Alias.u rfl ty_s_string rfl)) ?_
            refine awpl_op rfl (opTo_q (d := 17) rfl rfl (ev_load rfl rfl ty_s_string rfl rfl)) ?_
            refine awpl_op rfl (opTo_mapUpdate (KK := keyS) (F := (cL cS)) (es := s17.2) (k := v21.Address) (v := v21.To) rfl rfl rfl rfl rfl ty_map_string_s_string.u ty_string.u) ?_
            refine awpl_nil ?_
            refine kblock_normal ?_
            refine kthen_normal ?_
            refine awp_region ?_
            refine awpl_op rfl (opTo_q (d := 18) rfl rfl (ev_add rfl rfl)) ?_
            refine awpl_op rfl (opTo_q (d := 9) rfl rfl ev_move) ?_
            refine awpl_nil ?_
            cases hr
            exact ⟨rfl, (frLe_cons rfl (frLe_cons rfl (frLe_cons rfl (frLe_cons rfl frLe_nil)))), (stoLe_cons rfl (stoLe_cons rfl (stoLe_cons rfl (stoLe_cons rfl (stoLe_cons rfl (stoLe_cons rfl (stoLe_cons rfl (stoLe_cons rfl (stoLe_cons rfl (stoLe_cons rfl (stoLe_cons rfl (stoLe_cons rfl (stoLe_cons rfl (stoLe_cons rfl (stoLe_cons rfl (stoLe_cons rfl (stoLe_cons rfl stoLe_nil)))))))))))))))))⟩
          · replace hr := cond_f c20 hr
            refine awp_exit ?_
            refine kthen_exit ?_
            cases hr
            exact ⟨by simp, rfl, (frLe_cons rfl frLe_nil), (stoLe_cons rfl (stoLe_cons rfl (stoLe_cons rfl (stoLe_cons rfl (stoLe_cons rfl (stoLe_cons rfl (stoLe_cons rfl (stoLe_cons rfl (stoLe_cons rfl (stoLe_cons rfl (stoLe_cons rfl (stoLe_cons rfl (stoLe_cons rfl (stoLe_cons rfl (stoLe_cons rfl (stoLe_cons rfl (stoLe_cons rfl stoLe_nil)))))))))))))))))⟩
        · intro e fr2 st2 hq
          obtain ⟨rfl, hf, hs⟩ := hq
          refine kblock_exit ?_
          refine kthen_normal ?_
          refine awp_le hf hs ?_
          refine awp_seq ?_
          refine awp_region ?_
          refine awpl_op rfl (opTo_q (d := 19) rfl rfl ev_move) ?_
          refine awpl_op rfl (opTo_q (d := 2) rfl rfl ev_assign) ?_
          refine awpl_nil ?_
          refine kthen_normal ?_
          refine awp_ret ?_
          refine inlK (cs := [.mp 2006]) (fr'' := [(0, .fn (.yield b16) [] []), (2, .ptr 3 0)]) (σ'' := [(2006, .mapo false (menc keyS (cL cS) b18)), (1699999, .sus g0.w.heap.size ds16), (1699998, .lp b16 L16), (1600005, .hold (.ptr 5 0) (T16.getD 5 undef)), (1600007, .hold (.ptr 7 0) (T16.getD 7 undef)), (1600008, .hold (.ptr 8 0) (T16.getD 8 undef)), (1600024, .hold (.fn (.func 61) [] [.ptr 2 0, .ptr 3 0]) (T16.getD 24 undef)), (3, .cells [.l cS (([a1] : List Str))]), (2, .cells [.l TAlias.pc a0]), (1008, .row 9 false 1 (List.map cS (([] : List Str)))), (8, .cells [.hs 1008 0]), (7, .cells [.mp 1006]), (1006, .mapo false (menc keyS (cL cS) b12)), (5, .cells [.i 0, .i 0])]) (.inl rfl) frLe_refl stoLe_refl (.cons (res_tmp rfl) .nil) (.cons rfl (.cons rfl .nil)) rfl (stoLe_cons rfl (stoLe_cons rfl (stoLe_cons rfl (stoLe_cons rfl (stoLe_cons rfl (stoLe_cons rfl (stoLe_cons rfl (stoLe_cons rfl (stoLe_cons rfl (stoLe_cons rfl (stoLe_cons rfl (stoLe_cons rfl (stoLe_cons rfl (stoLe_cons rfl stoLe_nil)))))))))))))) ?_
          refine awpl_op rfl (opTo_q (d := 4) rfl rfl ev_assign) ?_
          refine awpl_nil ?_
          refine kthen_normal ?_
          refine awp_seq ?_
          refine awp_region ?_
          refine awpl_op rfl (opTo_makeMap (k0 := 11) 1011 false rfl rfl rfl) ?_
          refine awpl_op rfl (opTo_alloc (k := 5) 1005 rfl ty_map_string_bool (.inl rfl) rfl rfl rfl) ?_
          refine awpl_op rfl (opTo_store rfl rfl rfl ty_map_string_bool rfl rfl) ?_
          refine awpl_nil ?_
          refine kthen_normal ?_
          refine awp_seq ?_
          refine awp_region ?_
          refine awpl_op rfl (opTo_alloc (k := 6) 6 rfl ty_s_string (.inl rfl) rfl rfl rfl) ?_
          refine awpl_adoptC 3006 (o := 6) (j := 0) 9 1 rfl rfl rfl rfl ?_
          refine awpl_nil ?_
          refine kthen_normal ?_
          refine awp_seq ?_
          refine awp_region ?_
          refine awpl_op rfl (opTo_q (d := 12) rfl rfl (ev_makeFunc rfl rfl)) ?_
          refine awpl_op rfl (opTo_q (d := 7) rfl rfl ev_assign) ?_
          refine awpl_nil ?_
          refine kthen_normal ?_
          refine awp_seq ?_
          refine awp_region ?_
          refine awpl_op rfl (opTo_q (d := 13) rfl rfl ev_move) ?_
          refine awpl_op rfl (opTo_q (d := 14) rfl rfl (ev_load rfl rfl ty_s_string rfl rfl)) ?_
          refine awpl_inl (fn := Try.f62) (args := [.l cS (([a1] : List Str)), .ptr 1005 0, .ptr 6 0]) 1800000 1899999 [(0, .fn (.yield b16) [] []), (4, .mp 2006), (6, .ptr 6 0), (7, .fn (.func 62) [] [.ptr 1005 0, .ptr 6 0])] (wanted_plain rfl) rfl ⟨Try.func62, rfl, by kernel_rfl⟩ rfl rfl (.cons rfl (.cons rfl (.cons rfl (.cons rfl .nil)))) fun T18 ds18 hT18 => ?_
          refine awp_seq ?_
          refine awp_region ?_
          refine awpl_op rfl (opTo_q (d := 6) rfl rfl ev_move) ?_
          refine awpl_op rfl (opTo_q (d := 7) rfl rfl (ev_llen (f := cS) rfl ty_s_string.u)) ?_
          refine awpl_op rfl (opTo_q (d := 8) rfl rfl ev_move) ?_
          refine awpl_nil ?_
          refine kthen_normal ?_
          refine awp_block ?_
          obtain ⟨b24, hl, hr⟩ := bind_some hr
          refine awp_loop (alias_Expand_l3 a1) (fun s23 => [(1, .ptr 1005 0), (2, .ptr 6 0), (6, .l cS (([a1] : List Str))), (7, .i (((([a1] : List Str)).length : Int))), (8, .i s23.1)]) (fun s23 => [(1899999, .sus g0.w.heap.size ds18), (1800000, .hold (.fn (.yield b16) [] []) (T18.getD 0 undef)), (1800004, .hold (.mp 2006) (T18.getD 4 undef)), (1800006, .hold (.ptr 6 0) (T18.getD 6 undef)), (1800007, .hold (.fn (.func 62) [] [.ptr 1005 0, .ptr 6 0]) (T18.getD 7 undef)), (3006, .row 9 false 1 (List.map cS s23.2.1)), (6, .cells [.hs 3006 0]), (1005, .cells [.mp 1011]), (1011, .mapo false (menc keyS cB s23.2.2)), (2006, .mapo false (menc keyS (cL cS) b18)), (1699999, .sus g0.w.heap.size ds16), (1699998, .lp b16 L16), (1600005, .hold (.ptr 5 0) (T16.getD 5 undef)), (1600007, .hold (.ptr 7 0) (T16.getD 7 undef)), (1600008, .hold (.ptr 8 0) (T16.getD 8 undef)), (1600024, .hold (.fn (.func 61) [] [.ptr 2 0, .ptr 3 0]) (T16.getD 24 undef)), (3, .cells [.l cS (([a1] : List Str))]), (2, .cells [.l TAlias.pc a0]), (1008, .row 9 false 1 (List.map cS (([] : List Str)))), (8, .cells [.hs 1008 0]), (7, .cells [.mp 1006]), (1006, .mapo false (menc keyS (cL cS) b12)), (5, .cells [.i 0, .i 0])]) (fun b24 => At (.exit 0) [] [(1899999, .sus g0.w.heap.size ds18), (1800000, .hold (.fn (.yield b16) [] []) (T18.getD 0 undef)), (1800004, .hold (.mp 2006) (T18.getD 4 undef)), (1800006, .hold (.ptr 6 0) (T18.getD 6 undef)), (1800007, .hold (.fn (.func 62) [] [.ptr 1005 0, .ptr 6 0]) (T18.getD 7 undef)), (3006, .row 9 false 1 (List.map cS b24.1)), (6, .cells [.hs 3006 0]), (1005, .cells [.mp 1011]), (1011, .mapo false (menc keyS cB b24.2)), (2006, .mapo false (menc keyS (cL cS) b18)), (1699999, .sus g0.w.heap.size ds16), (1699998, .lp b16 L16), (1600005, .hold (.ptr 5 0) (T16.getD 5 undef)), (1600007, .hold (.ptr 7 0) (T16.getD 7 undef)), (1600008, .hold (.ptr 8 0) (T16.getD 8 undef)), (1600024, .hold (.fn (.func 61) [] [.ptr 2 0, .ptr 3 0]) (T16.getD 24 undef)), (3, .cells [.l cS (([a1] : List Str))]), (2, .cells [.l TAlias.pc a0]), (1008, .row 9 false 1 (List.map cS (([] : List Str)))), (8, .cells [.hs 1008 0]), (7, .cells [.mp 1006]), (1006, .mapo false (menc keyS (cL cS) b12)), (5, .cells [.i 0, .i 0])]) ?_ ((0, ([] : List Str), ([] : List (Str × Bool)))) hl (frLe_cons rfl (frLe_cons rfl (frLe_cons rfl (frLe_cons rfl (frLe_cons rfl frLe_nil))))) (stoLe_cons rfl (stoLe_cons rfl (stoLe_cons rfl (stoLe_cons rfl (stoLe_cons rfl (stoLe_cons rfl (stoLe_cons rfl (stoLe_cons rfl (stoLe_cons rfl (stoLe_cons rfl (stoLe_cons rfl (stoLe_cons rfl (stoLe_cons rfl (stoLe_cons rfl (stoLe_cons rfl (stoLe_cons rfl (stoLe_cons rfl (stoLe_cons rfl (stoLe_cons rfl (stoLe_cons rfl (stoLe_cons rfl (stoLe_cons rfl (stoLe_cons rfl stoLe_nil))))))))))))))))))))))) ?_
          · intro s23 x25 hr
            unfold alias_Expand_l3 at hr
            refine awp_seq ?_
            refine awp_region ?_
            refine awpl_op rfl (opTo_q (d := 9) rfl rfl (ev_lss rfl rfl)) ?_
            refine awpl_nil ?_
            refine kthen_normal ?_
            refine awp_seq ?_
            refine awp_cond rfl (fun c26 => ?_) (fun c26 => ?_)
            · replace hr := cond_t c26 hr
              refine awp_skip ?_
              refine kthen_normal ?_
              obtain ⟨j27, hx, hy⟩ := bind_some hr
              refine awp_join (fun j27 => [(1, .ptr 1005 0), (2, .ptr 6 0), (6, .l cS (([a1] : List Str))), (7, .i (((([a1] : List Str)).length : Int))), (8, .i s23.1)]) (fun j27 => [(1899999, .sus g0.w.heap.size ds18), (1800000, .hold (.fn (.yield b16) [] []) (T18.getD 0 undef)), (1800004, .hold (.mp 2006) (T18.getD 4 undef)), (1800006, .hold (.ptr 6 0) (T18.getD 6 undef)), (1800007, .hold (.fn (.func 62) [] [.ptr 1005 0, .ptr 6 0]) (T18.getD 7 undef)), (3006, .row 9 false 1 (List.map cS j27.1)), (6, .cells [.hs 3006 0]), (1005, .cells [.mp 1011]), (1011, .mapo false (menc keyS cB j27.2)), (2006, .mapo false (menc keyS (cL cS) b18)), (1699999, .sus g0.w.heap.size ds16), (1699998, .lp b16 L16), (1600005, .hold (.ptr 5 0) (T16.getD 5 undef)), (1600007, .hold (.ptr 7 0) (T16.getD 7 undef)), (1600008, .hold (.ptr 8 0) (T16.getD 8 undef)), (1600024, .hold (.fn (.func 61) [] [.ptr 2 0, .ptr 3 0]) (T16.getD 24 undef)), (3, .cells [.l cS (([a1] : List Str))]), (2, .cells [.l TAlias.pc a0]), (1008, .row 9 false 1 (List.map cS (([] : List Str)))), (8, .cells [.hs 1008 0]), (7, .cells [.mp 1006]), (1006, .mapo false (menc keyS (cL cS) b12)), (5, .cells [.i 0, .i 0])]) (fun z => j27 = z) ?_ ?_
              · have hr := hx
                clear hx hy
                refine awp_block ?_
                refine awp_seq ?_
                refine awp_region ?_
                obtain ⟨v28, h29, hr⟩ := bind_some hr
                refine awpl_op rfl (opTo_q (d := 10) rfl rfl (ev_idx (f := cS) rfl rfl ty_s_string ty_string rfl h29)) ?_
                refine awpl_op rfl (opTo_q (d := 11) rfl rfl (ev_load_ep rfl ty_string rfl rfl)) ?_
                refine awpl_op rfl (opTo_q (d := 5) rfl rfl ev_assign) ?_
                refine awpl_nil ?_
                refine kthen_normal ?_
                refine awp_seq ?_
                refine awp_region ?_
                refine awpl_op rfl (opTo_q (d := 12) rfl rfl (ev_load rfl rfl ty_map_string_bool rfl rfl)) ?_
                refine awpl_op rfl (opTo_q (d := 13) rfl rfl ev_move) ?_
                refine awpl_op rfl (opTo_q (d := 14) rfl rfl (ev_lookup (KK := keyS) (F := cB) (es := s23.2.2) (k := v28) (z := false) rfl rfl rfl ty_map_string_bool.u ty_string.u ty_bool rfl)) ?_
                refine awpl_op rfl (opTo_q (d := 15) rfl rfl (ev_not rfl)) ?_
                refine awpl_nil ?_
                refine kthen_normal ?_
                refine awp_cond rfl (fun c30 => ?_) (fun c30 => ?_)
                · replace hr := cond_t c30 hr
                  refine awp_seq ?_
                  refine awp_region ?_
                  refine awpl_op rfl (opTo_q (d := 16) rfl rfl (ev_load rfl rfl ty_map_string_bool rfl rfl)) ?_
                  refine awpl_op rfl (opTo_q (d := 17) rfl rfl ev_move) ?_
                  refine awpl_op rfl (opTo_mapUpdate (KK := keyS) (F := cB) (es := s23.2.2) (k := v28) (v := true) rfl rfl rfl rfl rfl ty_map_string_bool.u ty_string.u) ?_
                  refine awpl_nil ?_
                  refine kthen_normal ?_
                  refine awp_region ?_
                  refine awpl_op rfl (opTo_q (d := 18) rfl rfl (ev_load rfl rfl ty_s_string rfl rfl)) ?_
                  refine awpl_op rfl (opTo_q (d := 19) rfl rfl ev_move) ?_
                  refine awpl_op rfl (opTo_g (d := 20) rfl rfl (opG_lit (F := cS) (l := ([v28] : List Str)) ty_s_string ty_string rfl (fun _ => rfl) rfl rfl)) ?_
                  obtain ⟨v31, h32, hr⟩ := bind_some hr
                  refine awpl_op rfl (opTo_append (k := 21) (F := cS) (l := s23.2.1) (xs := (([v28] : List Str))) (lim := 8796093022208) rfl rfl rfl rfl ty_s_string ty_string rfl rfl (fun _ => rfl) rfl h32) ?_
                  refine awpl_op rfl (opTo_store rfl rfl rfl ty_s_string rfl rfl) ?_
                  refine awpl_nil ?_
                  refine kblock_normal ?_
                  cases hr
                  exact joinK_normal _ rfl (frLe_cons rfl (frLe_cons rfl (frLe_cons rfl (frLe_cons rfl (frLe_cons rfl frLe_nil))))) (stoLe_cons rfl (stoLe_cons rfl (stoLe_cons rfl (stoLe_cons rfl (stoLe_cons rfl (stoLe_cons rfl (stoLe_cons rfl (stoLe_cons rfl (stoLe_cons rfl (stoLe_cons rfl (stoLe_cons rfl (stoLe_cons rfl (stoLe_cons rfl (stoLe_cons rfl (stoLe_cons rfl (stoLe_cons rfl (stoLe_cons rfl (stoLe_cons rfl (stoLe_cons rfl (stoLe_cons rfl (stoLe_cons rfl (stoLe_cons rfl (stoLe_cons rfl stoLe_nil)))))))))))))))))))))))
                · replace hr := cond_f c30 hr
                  refine awp_skip ?_
                  refine kblock_normal ?_
                  cases hr
                  exact joinK_normal _ rfl (frLe_cons rfl (frLe_cons rfl (frLe_cons rfl (frLe_cons rfl (frLe_cons rfl frLe_nil))))) (stoLe_cons rfl (stoLe_cons rfl (stoLe_cons rfl (stoLe_cons rfl (stoLe_cons rfl (stoLe_cons rfl (stoLe_cons rfl (stoLe_cons rfl (stoLe_cons rfl (stoLe_cons rfl (stoLe_cons rfl (stoLe_cons rfl (stoLe_cons rfl (stoLe_cons rfl (stoLe_cons rfl (stoLe_cons rfl (stoLe_cons rfl (stoLe_cons rfl (stoLe_cons rfl (stoLe_cons rfl (stoLe_cons rfl (stoLe_cons rfl (stoLe_cons rfl stoLe_nil)))))))))))))))))))))))
              · rintro _ rfl
                have hr := hy
                clear hx hy
                refine awp_region ?_
                refine awpl_op rfl (opTo_q (d := 22) rfl rfl (ev_add rfl rfl)) ?_
                refine awpl_op rfl (opTo_q (d := 8) rfl rfl ev_move) ?_
                refine awpl_nil ?_
                cases hr
                exact ⟨rfl, (frLe_cons rfl (frLe_cons rfl (frLe_cons rfl (frLe_cons rfl (frLe_cons rfl frLe_nil))))), (stoLe_cons rfl (stoLe_cons rfl (stoLe_cons rfl (stoLe_cons rfl (stoLe_cons rfl (stoLe_cons rfl (stoLe_cons rfl (stoLe_cons rfl (stoLe_cons rfl (stoLe_cons rfl (stoLe_cons rfl (stoLe_cons rfl (stoLe_cons rfl (stoLe_cons rfl (stoLe_cons rfl (stoLe_cons rfl (stoLe_cons rfl (stoLe_cons rfl (stoLe_cons rfl (stoLe_cons rfl (stoLe_cons rfl (stoLe_cons rfl (stoLe_cons rfl stoLe_nil)))))))))))))))))))))))⟩
            · replace hr := cond_f c26 hr
              refine awp_exit ?_
              refine kthen_exit ?_
              cases hr
              exact ⟨by simp, rfl, frLe_nil, (stoLe_cons rfl (stoLe_cons rfl (stoLe_cons rfl (stoLe_cons rfl (stoLe_cons rfl (stoLe_cons rfl (stoLe_cons rfl (stoLe_cons rfl (stoLe_cons rfl (stoLe_cons rfl (stoLe_cons rfl (stoLe_cons rfl (stoLe_cons rfl (stoLe_cons rfl (stoLe_cons rfl (stoLe_cons rfl (stoLe_cons rfl (stoLe_cons rfl (stoLe_cons rfl (stoLe_cons rfl (stoLe_cons rfl (stoLe_cons rfl (stoLe_cons rfl stoLe_nil)))))))))))))))))))))))⟩
          · intro e fr2 st2 hq
            obtain ⟨rfl, hf, hs⟩ := hq
            refine kblock_exit ?_
            refine inlK (cs := []) (fr'' := [(0, .fn (.yield b16) [] []), (4, .mp 2006), (6, .ptr 6 0), (7, .fn (.func 62) [] [.ptr 1005 0, .ptr 6 0])]) (σ'' := [(3006, .row 9 false 1 (List.map cS b24.1)), (6, .cells [.hs 3006 0]), (1005, .cells [.mp 1011]), (1011, .mapo false (menc keyS cB b24.2)), (2006, .mapo false (menc keyS (cL cS) b18)), (1699999, .sus g0.w.heap.size ds16), (1699998, .lp b16 L16), (1600005, .hold (.ptr 5 0) (T16.getD 5 undef)), (1600007, .hold (.ptr 7 0) (T16.getD 7 undef)), (1600008, .hold (.ptr 8 0) (T16.getD 8 undef)), (1600024, .hold (.fn (.func 61) [] [.ptr 2 0, .ptr 3 0]) (T16.getD 24 undef)), (3, .cells [.l cS (([a1] : List Str))]), (2, .cells [.l TAlias.pc a0]), (1008, .row 9 false 1 (List.map cS (([] : List Str)))), (8, .cells [.hs 1008 0]), (7, .cells [.mp 1006]), (1006, .mapo false (menc keyS (cL cS) b12)), (5, .cells [.i 0, .i 0])]) (.inr rfl) hf hs .nil (.cons rfl (.cons rfl (.cons rfl (.cons rfl .nil)))) rfl (stoLe_cons rfl (stoLe_cons rfl (stoLe_cons rfl (stoLe_cons rfl (stoLe_cons rfl (stoLe_cons rfl (stoLe_cons rfl (stoLe_cons rfl (stoLe_cons rfl (stoLe_cons rfl (stoLe_cons rfl (stoLe_cons rfl (stoLe_cons rfl (stoLe_cons rfl (stoLe_cons rfl (stoLe_cons rfl (stoLe_cons rfl (stoLe_cons rfl stoLe_nil)))))))))))))))))) ?_
            refine awpl_nil ?_
            refine kthen_normal ?_
            refine awp_block ?_
            obtain ⟨b34, hl, hr⟩ := bind_some hr
            refine awp_loop (alias_Expand_l4 b12 b18) (fun s33 => [(0, .fn (.yield b16) [] []), (4, .mp 2006), (6, .ptr 6 0), (7, .fn (.func 62) [] [.ptr 1005 0, .ptr 6 0])]) (fun s33 => [(3006, .row 9 false 1 (List.map cS s33.1)), (6, .cells [.hs 3006 0]), (1005, .cells [.mp 1011]), (1011, .mapo false (menc keyS cB s33.2.1)), (2006, .mapo false (menc keyS (cL cS) b18)), (1699999, .sus g0.w.heap.size ds16), (1699998, .lp b16 L16), (1600005, .hold (.ptr 5 0) (T16.getD 5 undef)), (1600007, .hold (.ptr 7 0) (T16.getD 7 undef)), (1600008, .hold (.ptr 8 0) (T16.getD 8 undef)), (1600024, .hold (.fn (.func 61) [] [.ptr 2 0, .ptr 3 0]) (T16.getD 24 undef)), (3, .cells [.l cS (([a1] : List Str))]), (2, .cells [.l TAlias.pc a0]), (1008, .row 9 false 1 (List.map cS s33.2.2)), (8, .cells [.hs 1008 0]), (7, .cells [.mp 1006]), (1006, .mapo false (menc keyS (cL cS) b12)), (5, .cells [.i 0, .i 0])]) (fun b34 => At (.exit 0) [] [(1699999, .sus g0.w.heap.size ds16), (1699998, .lp b16 L16), (1600005, .hold (.ptr 5 0) (T16.getD 5 undef)), (1600007, .hold (.ptr 7 0) (T16.getD 7 undef)), (1600008, .hold (.ptr 8 0) (T16.getD 8 undef)), (1600024, .hold (.fn (.func 61) [] [.ptr 2 0, .ptr 3 0]) (T16.getD 24 undef)), (3, .cells [.l cS (([a1] : List Str))]), (2, .cells [.l TAlias.pc a0]), (1008, .row 9 false 1 (List.map cS b34)), (8, .cells [.hs 1008 0]), (7, .cells [.mp 1006]), (1006, .mapo false (menc keyS (cL cS) b12)), (5, .cells [.i 0, .i 0])]) ?_ ((b24.1, b24.2, ([] : List Str))) hl (frLe_cons rfl (frLe_cons rfl (frLe_cons rfl (frLe_cons rfl frLe_nil)))) (stoLe_cons rfl (stoLe_cons rfl (stoLe_cons rfl (stoLe_cons rfl (stoLe_cons rfl (stoLe_cons rfl (stoLe_cons rfl (stoLe_cons rfl (stoLe_cons rfl (stoLe_cons rfl (stoLe_cons rfl (stoLe_cons rfl (stoLe_cons rfl (stoLe_cons rfl (stoLe_cons rfl (stoLe_cons rfl (stoLe_cons rfl (stoLe_cons rfl stoLe_nil)))))))))))))))))) ?_
            · intro s33 x35 hr
              unfold alias_Expand_l4 at hr
              refine awp_seq ?_
              refine awp_seq ?_
              refine awp_region ?_
              refine awpl_op rfl (opTo_q (d := 16) rfl rfl (ev_load rfl rfl ty_s_string rfl rfl)) ?_
              refine awpl_op rfl (opTo_q (d := 17) rfl rfl (ev_hlen (F := cS) rfl rfl ty_s_string.u)) ?_
              refine awpl_op rfl (opTo_q (d := 18) rfl rfl (ev_gtr rfl rfl)) ?_
              refine awpl_nil ?_
              refine kthen_normal ?_
              refine awp_cond rfl (fun c36 => ?_) (fun c36 => ?_)
              · replace hr := cond_t c36 hr
                refine awp_skip ?_
                refine kthen_normal ?_
                refine awp_block ?_
                refine awp_seq ?_
                refine awp_region ?_
                refine awpl_op rfl (opTo_q (d := 19) rfl rfl (ev_load rfl rfl ty_s_string rfl rfl)) ?_
                refine awpl_pub (d := 19) (F := cS) (l := s33.1) rfl rfl ?_
                obtain ⟨v37, h38, hr⟩ := bind_some hr
                refine awpl_op rfl (opTo_q (d := 20) rfl rfl (ev_idx (f := cS) rfl rfl ty_s_string ty_string rfl h38)) ?_
                refine awpl_op rfl (opTo_q (d := 21) rfl rfl (ev_load_ep rfl ty_string rfl rfl)) ?_
                refine awpl_op rfl (opTo_q (d := 8) rfl rfl ev_assign) ?_
                refine awpl_nil ?_
                refine kthen_normal ?_
                refine awp_seq ?_
                refine awp_region ?_
                refine awpl_op rfl (opTo_q (d := 22) rfl rfl (ev_load rfl rfl ty_s_string rfl rfl)) ?_
                obtain ⟨v39, h40, hr⟩ := bind_some hr
                refine awpl_op rfl (opTo_hcutL (k := 23) (F := cS) (l := s33.1) rfl rfl rfl rfl ty_s_string ty_string h40) ?_
                refine awpl_op rfl (opTo_store rfl rfl rfl ty_s_string rfl rfl) ?_
                refine awpl_nil ?_
                refine kthen_normal ?_
                refine awp_seq ?_
                refine awp_seq ?_
                refine awp_region ?_
                refine awpl_op rfl (opTo_q (d := 24) rfl rfl ev_move) ?_
                refine awpl_op rfl (opTo_q (d := 25) rfl rfl ev_move) ?_
                refine awpl_yieldf (ps := [25]) (args := [.s v37]) 1600000 2500000 1699998 2599999 [(5, .ptr 5 0), (7, .ptr 7 0), (8, .ptr 8 0), (24, .fn (.func 61) [] [.ptr 2 0, .ptr 3 0])] [(0, .fn (.yield b16) [] []), (4, .mp 2006), (6, .ptr 6 0), (7, .fn (.func 62) [] [.ptr 1005 0, .ptr 6 0]), (8, .s v37)] (wanted_plain rfl) rfl rfl hLs16 hLp16 hLt16 hLq16 hLa16 hLb16 hT16 rfl rfl rfl rfl (.cons rfl (.cons rfl (.cons rfl (.cons rfl (.cons rfl .nil))))) (.cons rfl (.cons rfl (.cons rfl (.cons rfl .nil)))) fun T25 ds25 hT25 => ?_
                refine awp_region ?_
                refine awpl_op rfl (opTo_q (d := 9) rfl rfl ev_assign) ?_
                refine awpl_nil ?_
                refine asgK frLe_refl stoLe_refl rfl ?_
                refine awp_block ?_
                refine awp_seq ?_
                refine awp_region ?_
                refine awpl_op rfl (opTo_q (d := 26) rfl rfl (ev_load rfl rfl ty_map_string_s_string rfl rfl)) ?_
                refine awpl_op rfl (opTo_q (d := 27) rfl rfl ev_move) ?_
                refine opt_split (mget b12 v37) (fun v41 c42 => ?_) (fun c42 => ?_)
                · replace hr := opt_some c42 hr
                  refine awpl_op rfl (opTo_q (d := 28) rfl rfl (ev_lookup_some (KK := keyS) (F := (cL cS)) (es := b12) (k := v37) (z := (([] : List Str))) rfl rfl rfl ty_map_string_s_string.u ty_string.u ty_s_string rfl c42)) ?_
                  obtain ⟨v43, h44, hr⟩ := bind_some hr
                  refine awpl_op rfl (opTo_q (d := 29) rfl rfl (ev_isnil_no (F := cS) (l := v41) rfl rfl ty_s_string h44)) ?_
                  refine awpl_nil ?_
                  refine kthen_normal ?_
                  refine awp_cond (t := false) rfl (fun h => nomatch h) (fun _ => ?_)
                  refine awp_skip ?_
                  refine kblock_normal ?_
                  refine rndK (fr'' := [(0, .fn (.yield b16) [] []), (4, .mp 2006), (6, .ptr 6 0), (7, .fn (.func 62) [] [.ptr 1005 0, .ptr 6 0]), (8, .s v37)]) (σ'' := [(3006, .row 9 false 1 (List.map cS v39)), (6, .cells [.hs 3006 0]), (1005, .cells [.mp 1011]), (1011, .mapo false (menc keyS cB s33.2.1)), (2006, .mapo false (menc keyS (cL cS) b18)), (1699999, .sus g0.w.heap.size ds16), (1699998, .lp b16 L16), (1600005, .hold (.ptr 5 0) (T16.getD 5 undef)), (1600007, .hold (.ptr 7 0) (T16.getD 7 undef)), (1600008, .hold (.ptr 8 0) (T16.getD 8 undef)), (1600024, .hold (.fn (.func 61) [] [.ptr 2 0, .ptr 3 0]) (T16.getD 24 undef)), (3, .cells [.l cS (([a1] : List Str))]), (2, .cells [.l TAlias.pc a0]), (1008, .row 9 false 1 (List.map cS s33.2.2)), (8, .cells [.hs 1008 0]), (7, .cells [.mp 1006]), (1006, .mapo false (menc keyS (cL cS) b12)), (5, .cells [.i 0, .i 0])]) .off stoLe_refl rfl (.cons rfl (.cons rfl (.cons rfl (.cons rfl (.cons rfl .nil))))) rfl (stoLe_cons rfl (stoLe_cons rfl (stoLe_cons rfl (stoLe_cons rfl (stoLe_cons rfl (stoLe_cons rfl (stoLe_cons rfl (stoLe_cons rfl (stoLe_cons rfl (stoLe_cons rfl (stoLe_cons rfl (stoLe_cons rfl (stoLe_cons rfl (stoLe_cons rfl (stoLe_cons rfl (stoLe_cons rfl (stoLe_cons rfl (stoLe_cons rfl stoLe_nil)))))))))))))))))) ?_
                  refine awpl_op rfl (opTo_q (d := 27) rfl rfl (ev_not rfl)) ?_
                  refine awpl_nil ?_
                  refine kthen_normal ?_
                  refine awp_cond (t := false) rfl (fun h => nomatch h) (fun _ => ?_)
                  refine awp_skip ?_
                  refine kthen_normal ?_
                  refine awp_region ?_
                  refine awpl_op rfl (opTo_q (d := 28) rfl rfl ev_move) ?_
                  refine awpl_op rfl (opTo_q (d := 29) rfl rfl ev_move) ?_
                  refine awpl_op rfl (opTo_q (d := 30) rfl rfl ev_move) ?_
                  refine awpl_op rfl (opTo_q (d := 31) rfl rfl (ev_lookup (KK := keyS) (F := (cL cS)) (es := b18) (k := v37) (z := (([] : List Str))) rfl rfl rfl ty_map_string_s_string.u ty_string.u ty_s_string rfl)) ?_
                  refine awpl_inl (fn := Try.f62) (args := [.l cS (((mget b18 v37).getD (([] : List Str)))), .ptr 1005 0, .ptr 6 0]) 2600000 2699999 [(0, .fn (.yield b16) [] []), (4, .mp 2006), (6, .ptr 6 0), (7, .fn (.func 62) [] [.ptr 1005 0, .ptr 6 0])] (wanted_plain rfl) rfl ⟨Try.func62, rfl, by kernel_rfl⟩ rfl rfl (.cons rfl (.cons rfl (.cons rfl (.cons rfl .nil)))) fun T26 ds26 hT26 => ?_
                  refine awp_seq ?_
                  refine awp_region ?_
                  refine awpl_op rfl (opTo_q (d := 6) rfl rfl ev_move) ?_
                  refine awpl_op rfl (opTo_q (d := 7) rfl rfl (ev_llen (f := cS) rfl ty_s_string.u)) ?_
                  refine awpl_op rfl (opTo_q (d := 8) rfl rfl ev_move) ?_
                  refine awpl_nil ?_
                  refine kthen_normal ?_
                  refine awp_block ?_
                  obtain ⟨b46, hl, hr⟩ := bind_some hr
                  refine awp_loop (alias_Expand_l5 b18 v37) (fun s45 => [(1, .ptr 1005 0), (2, .ptr 6 0), (6, .l cS (((mget b18 v37).getD (([] : List Str))))), (7, .i (((((mget b18 v37).getD (([] : List Str)))).length : Int))), (8, .i s45.1)]) (fun s45 => [(2699999, .sus g0.w.heap.size ds26), (2600000, .hold (.fn (.yield b16) [] []) (T26.getD 0 undef)), (2600004, .hold (.mp 2006) (T26.getD 4 undef)), (2600006, .hold (.ptr 6 0) (T26.getD 6 undef)), (2600007, .hold (.fn (.func 62) [] [.ptr 1005 0, .ptr 6 0]) (T26.getD 7 undef)), (3006, .row 9 false 1 (List.map cS s45.2.1)), (6, .cells [.hs 3006 0]), (1005, .cells [.mp 1011]), (1011, .mapo false (menc keyS cB s45.2.2)), (2006, .mapo false (menc keyS (cL cS) b18)), (1699999, .sus g0.w.heap.size ds16), (1699998, .lp b16 L16), (1600005, .hold (.ptr 5 0) (T16.getD 5 undef)), (1600007, .hold (.ptr 7 0) (T16.getD 7 undef)), (1600008, .hold (.ptr 8 0) (T16.getD 8 undef)), (1600024, .hold (.fn (.func 61) [] [.ptr 2 0, .ptr 3 0]) (T16.getD 24 undef)), (3, .cells [.l cS (([a1] : List Str))]), (2, .cells [.l TAlias.pc a0]), (1008, .row 9 false 1 (List.map cS s33.2.2)), (8, .cells [.hs 1008 0]), (7, .cells [.mp 1006]), (1006, .mapo false (menc keyS (cL cS) b12)), (5, .cells [.i 0, .i 0])]) (fun b46 => At (.exit 0) [] [(2699999, .sus g0.w.heap.size ds26), (2600000, .hold (.fn (.yield b16) [] []) (T26.getD 0 undef)), (2600004, .hold (.mp 2006) (T26.getD 4 undef)), (2600006, .hold (.ptr 6 0) (T26.getD 6 undef)), (2600007, .hold (.fn (.func 62) [] [.ptr 1005 0, .ptr 6 0]) (T26.getD 7 undef)), (3006, .row 9 false 1 (List.map cS b46.1)), (6, .cells [.hs 3006 0]), (1005, .cells [.mp 1011]), (1011, .mapo false (menc keyS cB b46.2)), (2006, .mapo false (menc keyS (cL cS) b18)), (1699999, .sus g0.w.heap.size ds16), (1699998, .lp b16 L16), (1600005, .hold (.ptr 5 0) (T16.getD 5 undef)), (1600007, .hold (.ptr 7 0) (T16.getD 7 undef)), (1600008, .hold (.ptr 8 0) (T16.getD 8 undef)), (1600024, .hold (.fn (.func 61) [] [.ptr 2 0, .ptr 3 0]) (T16.getD 24 undef)), (3, .cells [.l cS (([a1] : List Str))]), (2, .cells [.l TAlias.pc a0]), (1008, .row 9 false 1 (List.map cS s33.2.2)), (8, .cells [.hs 1008 0]), (7, .cells [.mp 1006]), (1006, .mapo false (menc keyS (cL cS) b12)), (5, .cells [.i 0, .i 0])]) ?_ ((0, v39, s33.2.1)) hl (frLe_cons rfl (frLe_cons rfl (frLe_cons rfl (frLe_cons rfl (frLe_cons rfl frLe_nil))))) (stoLe_cons rfl (stoLe_cons rfl (stoLe_cons rfl (stoLe_cons rfl (stoLe_cons rfl (stoLe_cons rfl (stoLe_cons rfl (stoLe_cons rfl (stoLe_cons rfl (stoLe_cons rfl (stoLe_cons rfl (stoLe_cons rfl (stoLe_cons rfl (stoLe_cons rfl (stoLe_cons rfl (stoLe_cons rfl (stoLe_cons rfl (stoLe_cons rfl (stoLe_cons rfl (stoLe_cons rfl (stoLe_cons rfl (stoLe_cons rfl (stoLe_cons rfl stoLe_nil))))))))))))))))))))))) ?_
                  · intro s45 x47 hr
                    unfold alias_Expand_l5 at hr
                    refine awp_seq ?_
                    refine awp_region ?_
                    refine awpl_op rfl (opTo_q (d := 9) rfl rfl (ev_lss rfl rfl)) ?_
                    refine awpl_nil ?_
                    refine kthen_normal ?_
                    refine awp_seq ?_
                    refine awp_cond rfl (fun c48 => ?_) (fun c48 => ?_)
                    · replace hr := cond_t c48 hr
                      refine awp_skip ?_
                      refine kthen_normal ?_
                      obtain ⟨j49, hx, hy⟩ := bind_some hr
                      refine awp_join (fun j49 => [(1, .ptr 1005 0), (2, .ptr 6 0), (6, .l cS (((mget b18 v37).getD (([] : List Str))))), (7, .i (((((mget b18 v37).getD (([] : List Str)))).length : Int))), (8, .i s45.1)]) (fun j49 => [(2699999, .sus g0.w.heap.size ds26), (2600000, .hold (.fn (.yield b16) [] []) (T26.getD 0 undef)), (2600004, .hold (.mp 2006) (T26.getD 4 undef)), (2600006, .hold (.ptr 6 0) (T26.getD 6 undef)), (2600007, .hold (.fn (.func 62) [] [.ptr 1005 0, .ptr 6 0]) (T26.getD 7 undef)), (3006, .row 9 false 1 (List.map cS j49.1)), (6, .cells [.hs 3006 0]), (1005, .cells [.mp 1011]), (1011, .mapo false (menc keyS cB j49.2)), (2006, .mapo false (menc keyS (cL cS) b18)), (1699999, .sus g0.w.heap.size ds16), (1699998, .lp b16 L16), (1600005, .hold (.ptr 5 0) (T16.getD 5 undef)), (1600007, .hold (.ptr 7 0) (T16.getD 7 undef)), (1600008, .hold (.ptr 8 0) (T16.getD 8 undef)), (1600024, .hold (.fn (.func 61) [] [.ptr 2 0, .ptr 3 0]) (T16.getD 24 undef)), (3, .cells [.l cS (([a1] : List Str))]), (2, .cells [.l TAlias.pc a0]), (1008, .row 9 false 1 (List.map cS s33.2.2)), (8, .cells [.hs 1008 0]), (7, .cells [.mp 1006]), (1006, .mapo false (menc keyS (cL cS) b12)), (5, .cells [.i 0, .i 0])]) (fun z => j49 = z) ?_ ?_
                      · have hr := hx
                        clear hx hy
                        refine awp_block ?_
                        refine awp_seq ?_
                        refine awp_region ?_
                        obtain ⟨v50, h51, hr⟩ := bind_some hr
                        refine awpl_op rfl (opTo_q (d := 10) rfl rfl (ev_idx (f := cS) rfl rfl ty_s_string ty_string rfl h51)) ?_
                        refine awpl_op rfl (opTo_q (d := 11) rfl rfl (ev_load_ep rfl ty_string rfl rfl)) ?_
                        refine awpl_op rfl (opTo_q (d := 5) rfl rfl ev_assign) ?_
                        refine awpl_nil ?_
                        refine kthen_normal ?_
                        refine awp_seq ?_
                        refine awp_region ?_
                        refine awpl_op rfl (opTo_q (d := 12) rfl rfl (ev_load rfl rfl ty_map_string_bool rfl rfl)) ?_
                        refine awpl_op rfl (opTo_q (d := 13) rfl rfl ev_move) ?_
                        refine awpl_op rfl (opTo_q (d := 14) rfl rfl (ev_lookup (KK := keyS) (F := cB) (es := s45.2.2) (k := v50) (z := false) rfl rfl rfl ty_map_string_bool.u ty_string.u ty_bool rfl)) ?_
                        refine awpl_op rfl (opTo_q (d := 15) rfl rfl (ev_not rfl)) ?_
                        refine awpl_nil ?_
                        refine kthen_normal ?_
                        refine awp_cond rfl (fun c52 => ?_) (fun c52 => ?_)
                        · replace hr := cond_t c52 hr
                          refine awp_seq ?_
                          refine awp_region ?_
                          refine awpl_op rfl (opTo_q (d := 16) rfl rfl (ev_load rfl rfl ty_map_string_bool rfl rfl)) ?_
                          refine awpl_op rfl (opTo_q (d := 17) rfl rfl ev_move) ?_
                          refine awpl_op rfl (opTo_mapUpdate (KK := keyS) (F := cB) (es := s45.2.2) (k := v50) (v := true) rfl rfl rfl rfl rfl ty_map_string_bool.u ty_string.u) ?_
                          refine awpl_nil ?_
                          refine kthen_normal ?_
                          refine awp_region ?_
                          refine awpl_op rfl (opTo_q (d := 18) rfl rfl (ev_load rfl rfl ty_s_string rfl rfl)) ?_
                          refine awpl_op rfl (opTo_q (d := 19) rfl rfl ev_move) ?_
                          refine awpl_op rfl (opTo_g (d := 20) rfl rfl (opG_lit (F := cS) (l := ([v50] : List Str)) ty_s_string ty_string rfl (fun _ => rfl) rfl rfl)) ?_
                          obtain ⟨v53, h54, hr⟩ := bind_some hr
                          refine awpl_op rfl (opTo_append (k := 21) (F := cS) (l := s45.2.1) (xs := (([v50] : List Str))) (lim := 8796093022208) rfl rfl rfl rfl ty_s_string ty_string rfl rfl (fun _ => rfl) rfl h54) ?_
                          refine awpl_op rfl (opTo_store rfl rfl rfl ty_s_string rfl rfl) ?_
                          refine awpl_nil ?_
                          refine kblock_normal ?_
                          cases hr
                          exact joinK_normal _ rfl (frLe_cons rfl (frLe_cons rfl (frLe_cons rfl (frLe_cons rfl (frLe_cons rfl frLe_nil))))) (stoLe_cons rfl (stoLe_cons rfl (stoLe_cons rfl (stoLe_cons rfl (stoLe_cons rfl (stoLe_cons rfl (stoLe_cons rfl (stoLe_cons rfl (stoLe_cons rfl (stoLe_cons rfl (stoLe_cons rfl (stoLe_cons rfl (stoLe_cons rfl (stoLe_cons rfl (stoLe_cons rfl (stoLe_cons rfl (stoLe_cons rfl (stoLe_cons rfl (stoLe_cons rfl (stoLe_cons rfl (stoLe_cons rfl (stoLe_cons rfl (stoLe_cons rfl stoLe_nil)))))))))))))))))))))))
                        · replace hr := cond_f c52 hr
                          refine awp_skip ?_
                          refine kblock_normal ?_
                          cases hr
                          exact joinK_normal _ rfl (frLe_cons rfl (frLe_cons rfl (frLe_cons rfl (frLe_cons rfl (frLe_cons rfl frLe_nil))))) (stoLe_cons rfl (stoLe_cons rfl (stoLe_cons rfl (stoLe_cons rfl (stoLe_cons rfl (stoLe_cons rfl (stoLe_cons rfl (stoLe_cons rfl (stoLe_cons rfl (stoLe_cons rfl (stoLe_cons rfl (stoLe_cons rfl (stoLe_cons rfl (stoLe_cons rfl (stoLe_cons rfl (stoLe_cons rfl (stoLe_cons rfl (stoLe_cons rfl (stoLe_cons rfl (stoLe_cons rfl (stoLe_cons rfl (stoLe_cons rfl (stoLe_cons rfl stoLe_nil)))))))))))))))))))))))
                      · rintro _ rfl
                        have hr := hy
                        clear hx hy
                        refine awp_region ?_
                        refine awpl_op rfl (opTo_q (d := 22) rfl rfl (ev_add rfl rfl)) ?_
                        refine awpl_op rfl (opTo_q (d := 8) rfl rfl ev_move) ?_
                        refine awpl_nil ?_
                        cases hr
                        exact ⟨rfl, (frLe_cons rfl (frLe_cons rfl (frLe_cons rfl (frLe_cons rfl (frLe_cons rfl frLe_nil))))), (stoLe_cons rfl (stoLe_cons rfl (stoLe_cons rfl (stoLe_cons rfl (stoLe_cons rfl (stoLe_cons rfl (stoLe_cons rfl (stoLe_cons rfl (stoLe_cons rfl (stoLe_cons rfl (stoLe_cons rfl (stoLe_cons rfl (stoLe_cons rfl (stoLe_cons rfl (stoLe_cons rfl (stoLe_cons rfl (stoLe_cons rfl (stoLe_cons rfl (stoLe_cons rfl (stoLe_cons rfl (stoLe_cons rfl (stoLe_cons rfl (stoLe_cons rfl stoLe_nil)))))))))))))))))))))))⟩
                    · replace hr := cond_f c48 hr
                      refine awp_exit ?_
                      refine kthen_exit ?_
                      cases hr
                      exact ⟨by simp, rfl, frLe_nil, (stoLe_cons rfl (stoLe_cons rfl (stoLe_cons rfl (stoLe_cons rfl (stoLe_cons rfl (stoLe_cons rfl (stoLe_cons rfl (stoLe_cons rfl (stoLe_cons rfl (stoLe_cons rfl (stoLe_cons rfl (stoLe_cons rfl (stoLe_cons rfl (stoLe_cons rfl (stoLe_cons rfl (stoLe_cons rfl (stoLe_cons rfl (stoLe_cons rfl (stoLe_cons rfl (stoLe_cons rfl (stoLe_cons rfl (stoLe_cons rfl (stoLe_cons rfl stoLe_nil)))))))))))))))))))))))⟩
                  · intro e fr2 st2 hq
                    obtain ⟨rfl, hf, hs⟩ := hq
                    refine kblock_exit ?_
                    refine inlK (cs := []) (fr'' := [(0, .fn (.yield b16) [] []), (4, .mp 2006), (6, .ptr 6 0), (7, .fn (.func 62) [] [.ptr 1005 0, .ptr 6 0])]) (σ'' := [(3006, .row 9 false 1 (List.map cS b46.1)), (6, .cells [.hs 3006 0]), (1005, .cells [.mp 1011]), (1011, .mapo false (menc keyS cB b46.2)), (2006, .mapo false (menc keyS (cL cS) b18)), (1699999, .sus g0.w.heap.size ds16), (1699998, .lp b16 L16), (1600005, .hold (.ptr 5 0) (T16.getD 5 undef)), (1600007, .hold (.ptr 7 0) (T16.getD 7 undef)), (1600008, .hold (.ptr 8 0) (T16.getD 8 undef)), (1600024, .hold (.fn (.func 61) [] [.ptr 2 0, .ptr 3 0]) (T16.getD 24 undef)), (3, .cells [.l cS (([a1] : List Str))]), (2, .cells [.l TAlias.pc a0]), (1008, .row 9 false 1 (List.map cS s33.2.2)), (8, .cells [.hs 1008 0]), (7, .cells [.mp 1006]), (1006, .mapo false (menc keyS (cL cS) b12)), (5, .cells [.i 0, .i 0])]) (.inr rfl) hf hs .nil (.cons rfl (.cons rfl (.cons rfl (.cons rfl .nil)))) rfl (stoLe_cons rfl (stoLe_cons rfl (stoLe_cons rfl (stoLe_cons rfl (stoLe_cons rfl (stoLe_cons rfl (stoLe_cons rfl (stoLe_cons rfl (stoLe_cons rfl (stoLe_cons rfl (stoLe_cons rfl (stoLe_cons rfl (stoLe_cons rfl (stoLe_cons rfl (stoLe_cons rfl (stoLe_cons rfl (stoLe_cons rfl (stoLe_cons rfl stoLe_nil)))))))))))))))))) ?_
                    refine awpl_nil ?_
                    refine kblock_normal ?_
                    cases hr
                    exact ⟨rfl, (frLe_cons rfl (frLe_cons rfl (frLe_cons rfl (frLe_cons rfl frLe_nil)))), (stoLe_cons rfl (stoLe_cons rfl (stoLe_cons rfl (stoLe_cons rfl (stoLe_cons rfl (stoLe_cons rfl (stoLe_cons rfl (stoLe_cons rfl (stoLe_cons rfl (stoLe_cons rfl (stoLe_cons rfl (stoLe_cons rfl (stoLe_cons rfl (stoLe_cons rfl (stoLe_cons rfl (stoLe_cons rfl (stoLe_cons rfl (stoLe_cons rfl stoLe_nil))))))))))))))))))⟩
                · replace hr := opt_none c42 hr
                  refine awpl_op rfl (opTo_q (d := 28) rfl rfl (ev_lookup_none (KK := keyS) (F := (cL cS)) (es := b12) (k := v37) rfl rfl rfl ty_map_string_s_string.u ty_string.u ty_s_string c42)) ?_
                  refine awpl_op rfl (opTo_q (d := 29) rfl rfl (ev_isnil rfl rfl ty_s_string)) ?_
                  refine awpl_nil ?_
                  refine kthen_normal ?_
                  refine awp_cond (t := true) rfl (fun _ => ?_) (fun h => nomatch h)
                  refine awp_region ?_
                  refine awpl_op rfl (opTo_q (d := 30) rfl rfl (ev_load rfl rfl ty_s_string rfl rfl)) ?_
                  refine awpl_op rfl (opTo_q (d := 31) rfl rfl ev_move) ?_
                  refine awpl_op rfl (opTo_g (d := 32) rfl rfl (opG_lit (F := cS) (l := ([v37] : List Str)) ty_s_string ty_string rfl (fun _ => rfl) rfl rfl)) ?_
                  obtain ⟨v55, h56, hr⟩ := bind_some hr
                  refine awpl_op rfl (opTo_append (k := 33) (F := cS) (l := s33.2.2) (xs := (([v37] : List Str))) (lim := 8796093022208) rfl rfl rfl rfl ty_s_string ty_string rfl rfl (fun _ => rfl) rfl h56) ?_
                  refine awpl_op rfl (opTo_store rfl rfl rfl ty_s_string rfl rfl) ?_
                  refine awpl_nil ?_
                  refine kblock_normal ?_
                  refine rndK (fr'' := [(0, .fn (.yield b16) [] []), (4, .mp 2006), (6, .ptr 6 0), (7, .fn (.func 62) [] [.ptr 1005 0, .ptr 6 0]), (8, .s v37)]) (σ'' := [(3006, .row 9 false 1 (List.map cS v39)), (6, .cells [.hs 3006 0]), (1005, .cells [.mp 1011]), (1011, .mapo false (menc keyS cB s33.2.1)), (2006, .mapo false (menc keyS (cL cS) b18)), (1699999, .sus g0.w.heap.size ds16), (1699998, .lp b16 L16), (1600005, .hold (.ptr 5 0) (T16.getD 5 undef)), (1600007, .hold (.ptr 7 0) (T16.getD 7 undef)), (1600008, .hold (.ptr 8 0) (T16.getD 8 undef)), (1600024, .hold (.fn (.func 61) [] [.ptr 2 0, .ptr 3 0]) (T16.getD 24 undef)), (3, .cells [.l cS (([a1] : List Str))]), (2, .cells [.l TAlias.pc a0]), (1008, .row 9 false 1 (List.map cS v55)), (8, .cells [.hs 1008 0]), (7, .cells [.mp 1006]), (1006, .mapo false (menc keyS (cL cS) b12)), (5, .cells [.i 0, .i 0])]) .off stoLe_refl rfl (.cons rfl (.cons rfl (.cons rfl (.cons rfl (.cons rfl .nil))))) rfl (stoLe_cons rfl (stoLe_cons rfl (stoLe_cons rfl (stoLe_cons rfl (stoLe_cons rfl (stoLe_cons rfl (stoLe_cons rfl (stoLe_cons rfl (stoLe_cons rfl (stoLe_cons rfl (stoLe_cons rfl (stoLe_cons rfl (stoLe_cons rfl (stoLe_cons rfl (stoLe_cons rfl (stoLe_cons rfl (stoLe_cons rfl (stoLe_cons rfl stoLe_nil)))))))))))))))))) ?_
                  refine awpl_op rfl (opTo_q (d := 27) rfl rfl (ev_not rfl)) ?_
                  refine awpl_nil ?_
                  refine kthen_normal ?_
                  refine awp_cond (t := false) rfl (fun h => nomatch h) (fun _ => ?_)
                  refine awp_skip ?_
                  refine kthen_normal ?_
                  refine awp_region ?_
                  refine awpl_op rfl (opTo_q (d := 28) rfl rfl ev_move) ?_
                  refine awpl_op rfl (opTo_q (d := 29) rfl rfl ev_move) ?_
                  refine awpl_op rfl (opTo_q (d := 30) rfl rfl ev_move) ?_
                  refine awpl_op rfl (opTo_q (d := 31) rfl rfl (ev_lookup (KK := keyS) (F := (cL cS)) (es := b18) (k := v37) (z := (([] : List Str))) rfl rfl rfl ty_map_string_s_string.u ty_string.u ty_s_string rfl)) ?_
                  refine awpl_inl (fn := Try.f62) (args := [.l cS (((mget b18 v37).getD (([] : List Str)))), .ptr 1005 0, .ptr 6 0]) 2700000 2799999 [(0, .fn (.yield b16) [] []), (4, .mp 2006), (6, .ptr 6 0), (7, .fn (.func 62) [] [.ptr 1005 0, .ptr 6 0])] (wanted_plain rfl) rfl ⟨Try.func62, rfl, by kernel_rfl⟩ rfl rfl (.cons rfl (.cons rfl (.cons rfl (.cons rfl .nil)))) fun T27 ds27 hT27 => ?_
                  refine awp_seq ?_
                  refine awp_region ?_
                  refine awpl_op rfl (opTo_q (d := 6) rfl rfl ev_move) ?_
                  refine awpl_op rfl (opTo_q (d := 7) rfl rfl (ev_llen (f := cS) rfl ty_s_string.u)) ?_
                  refine awpl_op rfl (opTo_q (d := 8) rfl rfl ev_move) ?_
                  refine awpl_nil ?_
                  refine kthen_normal ?_
                  refine awp_block ?_
                  obtain ⟨b58, hl, hr⟩ := bind_some hr
                  refine awp_loop (alias_Expand_l6 b18 v37) (fun s57 => [(1, .ptr 1005 0), (2, .ptr 6 0), (6, .l cS (((mget b18 v37).getD (([] : List Str))))), (7, .i (((((mget b18 v37).getD (([] : List Str)))).length : Int))), (8, .i s57.1)]) (fun s57 => [(2799999, .sus g0.w.heap.size ds27), (2700000, .hold (.fn (.yield b16) [] []) (T27.getD 0 undef)), (2700004, .hold (.mp 2006) (T27.getD 4 undef)), (2700006, .hold (.ptr 6 0) (T27.getD 6 undef)), (2700007, .hold (.fn (.func 62) [] [.ptr 1005 0, .ptr 6 0]) (T27.getD 7 undef)), (3006, .row 9 false 1 (List.map cS s57.2.1)), (6, .cells [.hs 3006 0]), (1005, .cells [.mp 1011]), (1011, .mapo false (menc keyS cB s57.2.2)), (2006, .mapo false (menc keyS (cL cS) b18)), (1699999, .sus g0.w.heap.size ds16), (1699998, .lp b16 L16), (1600005, .hold (.ptr 5 0) (T16.getD 5 undef)), (1600007, .hold (.ptr 7 0) (T16.getD 7 undef)), (1600008, .hold (.ptr 8 0) (T16.getD 8 undef)), (1600024, .hold (.fn (.func 61) [] [.ptr 2 0, .ptr 3 0]) (T16.getD 24 undef)), (3, .cells [.l cS (([a1] : List Str))]), (2, .cells [.l TAlias.pc a0]), (1008, .row 9 false 1 (List.map cS v55)), (8, .cells [.hs 1008 0]), (7, .cells [.mp 1006]), (1006, .mapo false (menc keyS (cL cS) b12)), (5, .cells [.i 0, .i 0])]) (fun b58 => At (.exit 0) [] [(2799999, .sus g0.w.heap.size ds27), (2700000, .hold (.fn (.yield b16) [] []) (T27.getD 0 undef)), (2700004, .hold (.mp 2006) (T27.getD 4 undef)), (2700006, .hold (.ptr 6 0) (T27.getD 6 undef)), (2700007, .hold (.fn (.func 62) [] [.ptr 1005 0, .ptr 6 0]) (T27.getD 7 undef)), (3006, .row 9 false 1 (List.map cS b58.1)), (6, .cells [.hs 3006 0]), (1005, .cells [.mp 1011]), (1011, .mapo false (menc keyS cB b58.2)), (2006, .mapo false (menc keyS (cL cS) b18)), (1699999, .sus g0.w.heap.size ds16), (1699998, .lp b16 L16), (1600005, .hold (.ptr 5 0) (T16.getD 5 undef)), (1600007, .hold (.ptr 7 0) (T16.getD 7 undef)), (1600008, .hold (.ptr 8 0) (T16.getD 8 undef)), (1600024, .hold (.fn (.func 61) [] [.ptr 2 0, .ptr 3 0]) (T16.getD 24 undef)), (3, .cells [.l cS (([a1] : List Str))]), (2, .cells [.l TAlias.pc a0]), (1008, .row 9 false 1 (List.map cS v55)), (8, .cells [.hs 1008 0]), (7, .cells [.mp 1006]), (1006, .mapo false (menc keyS (cL cS) b12)), (5, .cells [.i 0, .i 0])]) ?_ ((0, v39, s33.2.1)) hl (frLe_cons rfl (frLe_cons rfl (frLe_cons rfl (frLe_cons rfl (frLe_cons rfl frLe_nil))))) (stoLe_cons rfl (stoLe_cons rfl (stoLe_cons rfl (stoLe_cons rfl (stoLe_cons rfl (stoLe_cons rfl (stoLe_cons rfl (stoLe_cons rfl (stoLe_cons rfl (stoLe_cons rfl (stoLe_cons rfl (stoLe_cons rfl (stoLe_cons rfl (stoLe_cons rfl (stoLe_cons rfl (stoLe_cons rfl (stoLe_cons rfl (stoLe_cons rfl (stoLe_cons rfl (stoLe_cons rfl (stoLe_cons rfl (stoLe_cons rfl (stoLe_cons rfl stoLe_nil))))))))))))))))))))))) ?_
                  · intro s57 x59 hr
                    unfold alias_Expand_l6 at hr
                    refine awp_seq ?_
                    refine awp_region ?_
                    refine awpl_op rfl (opTo_q (d := 9) rfl rfl (ev_lss rfl rfl)) ?_
                    refine awpl_nil ?_
                    refine kthen_normal ?_
                    refine awp_seq ?_
                    refine awp_cond rfl (fun c60 => ?_) (fun c60 => ?_)
                    · replace hr := cond_t c60 hr
                      refine awp_skip ?_
                      refine kthen_normal ?_
                      obtain ⟨j61, hx, hy⟩ := bind_some hr
                      refine awp_join (fun j61 => [(1, .ptr 1005 0), (2, .ptr 6 0), (6, .l cS (((mget b18 v37).getD (([] : List Str))))), (7, .i (((((mget b18 v37).getD (([] : List Str)))).length : Int))), (8, .i s57.1)]) (fun j61 => [(2799999, .sus g0.w.heap.size ds27), (2700000, .hold (.fn (.yield b16) [] []) (T27.getD 0 undef)), (2700004, .hold (.mp 2006) (T27.getD 4 undef)), (2700006, .hold (.ptr 6 0) (T27.getD 6 undef)), (2700007, .hold (.fn (.func 62) [] [.ptr 1005 0, .ptr 6 0]) (T27.getD 7 undef)), (3006, .row 9 false 1 (List.map cS j61.1)), (6, .cells [.hs 3006 0]), (1005, .cells [.mp 1011]), (1011, .mapo false (menc keyS cB j61.2)), (2006, .mapo false (menc keyS (cL cS) b18)), (1699999, .sus g0.w.heap.size ds16), (1699998, .lp b16 L16), (1600005, .hold (.ptr 5 0) (T16.getD 5 undef)), (1600007, .hold (.ptr 7 0) (T16.getD 7 undef)), (1600008, .hold (.ptr 8 0) (T16.getD 8 undef)), (1600024, .hold (.fn (.func 61) [] [.ptr 2 0, .ptr 3 0]) (T16.getD 24 undef)), (3, .cells [.l cS (([a1] : List Str))]), (2, .cells [.l TAlias.pc a0]), (1008, .row 9 false 1 (List.map cS v55)), (8, .cells [.hs 1008 0]), (7, .cells [.mp 1006]), (1006, .mapo false (menc keyS (cL cS) b12)), (5, .cells [.i 0, .i 0])]) (fun z => j61 = z) ?_ ?_
                      · have hr := hx
                        clear hx hy
                        refine awp_block ?_
                        refine awp_seq ?_
                        refine awp_region ?_
                        obtain ⟨v62, h63, hr⟩ := bind_some hr
                        refine awpl_op rfl (opTo_q (d := 10) rfl rfl (ev_idx (f := cS) rfl rfl ty_s_string ty_string rfl h63)) ?_
                        refine awpl_op rfl (opTo_q (d := 11) rfl rfl (ev_load_ep rfl ty_string rfl rfl)) ?_
                        refine awpl_op rfl (opTo_q (d := 5) rfl rfl ev_assign) ?_
                        refine awpl_nil ?_
                        refine kthen_normal ?_
                        refine awp_seq ?_
                        refine awp_region ?_
                        refine awpl_op rfl (opTo_q (d := 12) rfl rfl (ev_load rfl rfl ty_map_string_bool rfl rfl)) ?_
                        refine awpl_op rfl (opTo_q (d := 13) rfl rfl ev_move) ?_
                        refine awpl_op rfl (opTo_q (d := 14) rfl rfl (ev_lookup (KK := keyS) (F := cB) (es := s57.2.2) (k := v62) (z := false) rfl rfl rfl ty_map_string_bool.u ty_string.u ty_bool rfl)) ?_
                        refine awpl_op rfl (opTo_q (d := 15) rfl rfl (ev_not rfl)) ?_
                        refine awpl_nil ?_
                        refine kthen_normal ?_
                        refine awp_cond rfl (fun c64 => ?_) (fun c64 => ?_)
                        · replace hr := cond_t c64 hr
                          refine awp_seq ?_
                          refine awp_region ?_
                          refine awpl_op rfl (opTo_q (d := 16) rfl rfl (ev_load rfl rfl ty_map_string_bool rfl rfl)) ?_
                          refine awpl_op rfl (opTo_q (d := 17) rfl rfl ev_move) ?_
                          refine awpl_op rfl (opTo_mapUpdate (KK := keyS) (F := cB) (es := s57.2.2) (k := v62) (v := true) rfl rfl rfl rfl rfl ty_map_string_bool.u ty_string.u) ?_
                          refine awpl_nil ?_
                          refine kthen_normal ?_
                          refine awp_region ?_
                          refine awpl_op rfl (opTo_q (d := 18) rfl rfl (ev_load rfl rfl ty_s_string rfl rfl)) ?_
                          refine awpl_op rfl (opTo_q (d := 19) rfl rfl ev_move) ?_
                          refine awpl_op rfl (opTo_g (d := 20) rfl rfl (opG_lit (F := cS) (l := ([v62] : List Str)) ty_s_string ty_string rfl (fun _ => rfl) rfl rfl)) ?_
                          obtain ⟨v65, h66, hr⟩ := bind_some hr
                          refine awpl_op rfl (opTo_append (k := 21) (F := cS) (l := s57.2.1) (xs := (([v62] : List Str))) (lim := 8796093022208) rfl rfl rfl rfl ty_s_string ty_string rfl rfl (fun _ => rfl) rfl h66) ?_
                          refine awpl_op rfl (opTo_store rfl rfl rfl ty_s_string rfl rfl) ?_
                          refine awpl_nil ?_
                          refine kblock_normal ?_
                          cases hr
                          exact joinK_normal _ rfl (frLe_cons rfl (frLe_cons rfl (frLe_cons rfl (frLe_cons rfl (frLe_cons rfl frLe_nil))))) (stoLe_cons rfl (stoLe_cons rfl (stoLe_cons rfl (stoLe_cons rfl (stoLe_cons rfl (stoLe_cons rfl (stoLe_cons rfl (stoLe_cons rfl (stoLe_cons rfl (stoLe_cons rfl (stoLe_cons rfl (stoLe_cons rfl (stoLe_cons rfl (stoLe_cons rfl (stoLe_cons rfl (stoLe_cons rfl (stoLe_cons rfl (stoLe_cons rfl (stoLe_cons rfl (stoLe_cons rfl (stoLe_cons rfl (stoLe_cons rfl (stoLe_cons rfl stoLe_nil)))))))))))))))))))))))
                        · replace hr := cond_f c64 hr
                          refine awp_skip ?_
                          refine kblock_normal ?_
                          cases hr
                          exact joinK_normal _ rfl (frLe_cons rfl (frLe_cons rfl (frLe_cons rfl (frLe_cons rfl (frLe_cons rfl frLe_nil))))) (stoLe_cons rfl (stoLe_cons rfl (stoLe_cons rfl (stoLe_cons rfl (stoLe_cons rfl (stoLe_cons rfl (stoLe_cons rfl (stoLe_cons rfl (stoLe_cons rfl (stoLe_cons rfl (stoLe_cons rfl (stoLe_cons rfl (stoLe_cons rfl (stoLe_cons rfl (stoLe_cons rfl (stoLe_cons rfl (stoLe_cons rfl (stoLe_cons rfl (stoLe_cons rfl (stoLe_cons rfl (stoLe_cons rfl (stoLe_cons rfl (stoLe_cons rfl stoLe_nil)))))))))))))))))))))))
                      · rintro _ rfl
                        have hr := hy
                        clear hx hy
                        refine awp_region ?_
                        refine awpl_op rfl (opTo_q (d := 22) rfl rfl (ev_add rfl rfl)) ?_
                        refine awpl_op rfl (opTo_q (d := 8) rfl rfl ev_move) ?_
                        refine awpl_nil ?_
                        cases hr
                        exact ⟨rfl, (frLe_cons rfl (frLe_cons rfl (frLe_cons rfl (frLe_cons rfl (frLe_cons rfl frLe_nil))))), (stoLe_cons rfl (stoLe_cons rfl (stoLe_cons rfl (stoLe_cons rfl (stoLe_cons rfl (stoLe_cons rfl (stoLe_cons rfl (stoLe_cons rfl (stoLe_cons rfl (stoLe_cons rfl (stoLe_cons rfl (stoLe_cons rfl (stoLe_cons rfl (stoLe_cons rfl (stoLe_cons rfl (stoLe_cons rfl (stoLe_cons rfl (stoLe_cons rfl (stoLe_cons rfl (stoLe_cons rfl (stoLe_cons rfl (stoLe_cons rfl (stoLe_cons rfl stoLe_nil)))))))))))))))))))))))⟩
                    · replace hr := cond_f c60 hr
                      refine awp_exit ?_
                      refine kthen_exit ?_
                      cases hr
                      exact ⟨by simp, rfl, frLe_nil, (stoLe_cons rfl (stoLe_cons rfl (stoLe_cons rfl (stoLe_cons rfl (stoLe_cons rfl (stoLe_cons rfl (stoLe_cons rfl (stoLe_cons rfl (stoLe_cons rfl (stoLe_cons rfl (stoLe_cons rfl (stoLe_cons rfl (stoLe_cons rfl (stoLe_cons rfl (stoLe_cons rfl (stoLe_cons rfl (stoLe_cons rfl (stoLe_cons rfl (stoLe_cons rfl (stoLe_cons rfl (stoLe_cons rfl (stoLe_cons rfl (stoLe_cons rfl stoLe_nil)))))))))))))))))))))))⟩
                  · intro e fr2 st2 hq
                    obtain ⟨rfl, hf, hs⟩ := hq
                    refine kblock_exit ?_
                    refine inlK (cs := []) (fr'' := [(0, .fn (.yield b16) [] []), (4, .mp 2006), (6, .ptr 6 0), (7, .fn (.func 62) [] [.ptr 1005 0, .ptr 6 0])]) (σ'' := [(3006, .row 9 false 1 (List.map cS b58.1)), (6, .cells [.hs 3006 0]), (1005, .cells [.mp 1011]), (1011, .mapo false (menc keyS cB b58.2)), (2006, .mapo false (menc keyS (cL cS) b18)), (1699999, .sus g0.w.heap.size ds16), (1699998, .lp b16 L16), (1600005, .hold (.ptr 5 0) (T16.getD 5 undef)), (1600007, .hold (.ptr 7 0) (T16.getD 7 undef)), (1600008, .hold (.ptr 8 0) (T16.getD 8 undef)), (1600024, .hold (.fn (.func 61) [] [.ptr 2 0, .ptr 3 0]) (T16.getD 24 undef)), (3, .cells [.l cS (([a1] : List Str))]), (2, .cells [.l TAlias.pc a0]), (1008, .row 9 false 1 (List.map cS v55)), (8, .cells [.hs 1008 0]), (7, .cells [.mp 1006]), (1006, .mapo false (menc keyS (cL cS) b12)), (5, .cells [.i 0, .i 0])]) (.inr rfl) hf hs .nil (.cons rfl (.cons rfl (.cons rfl (.cons rfl .nil)))) rfl (stoLe_cons rfl (stoLe_cons rfl (stoLe_cons rfl (stoLe_cons rfl (stoLe_cons rfl (stoLe_cons rfl (stoLe_cons rfl (stoLe_cons rfl (stoLe_cons rfl (stoLe_cons rfl (stoLe_cons rfl (stoLe_cons rfl (stoLe_cons rfl (stoLe_cons rfl (stoLe_cons rfl (stoLe_cons rfl (stoLe_cons rfl (stoLe_cons rfl stoLe_nil)))))))))))))))))) ?_
                    refine awpl_nil ?_
                    refine kblock_normal ?_
                    cases hr
                    exact ⟨rfl, (frLe_cons rfl (frLe_cons rfl (frLe_cons rfl (frLe_cons rfl frLe_nil)))), (stoLe_cons rfl (stoLe_cons rfl (stoLe_cons rfl (stoLe_cons rfl (stoLe_cons rfl (stoLe_cons rfl (stoLe_cons rfl (stoLe_cons rfl (stoLe_cons rfl (stoLe_cons rfl (stoLe_cons rfl (stoLe_cons rfl (stoLe_cons rfl (stoLe_cons rfl (stoLe_cons rfl (stoLe_cons rfl (stoLe_cons rfl (stoLe_cons rfl stoLe_nil))))))))))))))))))⟩
              · replace hr := cond_f c36 hr
                refine awp_exit ?_
                refine kthen_exit ?_
                cases hr
                exact ⟨by simp, rfl, frLe_nil, (stoLe_cons rfl (stoLe_cons rfl (stoLe_cons rfl (stoLe_cons rfl (stoLe_cons rfl (stoLe_cons rfl (stoLe_cons rfl (stoLe_cons rfl (stoLe_cons rfl (stoLe_cons rfl (stoLe_cons rfl (stoLe_cons rfl (stoLe_cons rfl stoLe_nil)))))))))))))⟩
            · intro e fr2 st2 hq
              obtain ⟨rfl, hf, hs⟩ := hq
              refine kblock_exit ?_
              refine itrK (L' := L16) (fr'' := [(5, .ptr 5 0), (7, .ptr 7 0), (8, .ptr 8 0), (24, .fn (.func 61) [] [.ptr 2 0, .ptr 3 0])]) (σ'' := [(3, .cells [.l cS (([a1] : List Str))]), (2, .cells [.l TAlias.pc a0]), (1008, .row 9 false 1 (List.map cS b34)), (8, .cells [.hs 1008 0]), (7, .cells [.mp 1006]), (1006, .mapo false (menc keyS (cL cS) b12)), (5, .cells [.i 0, .i 0])]) (.inr rfl) hs rfl (.cons rfl (.cons rfl (.cons rfl (.cons rfl .nil)))) rfl (stoLe_cons rfl (stoLe_cons rfl (stoLe_cons rfl (stoLe_cons rfl (stoLe_cons rfl (stoLe_cons rfl (stoLe_cons rfl stoLe_nil))))))) rfl ?_
              refine .off ?_
              refine kblock_normal ?_
              refine kthen_normal ?_
              refine awp_seq ?_
              obtain ⟨v67, h68, hr⟩ := bind_some hr
              refine awp_drawn 2 [(35, .agg [.i v67.Code, .i v67.Index]), (34, .hs 1008 0)] mixed (by kernel_rfl) rfl rfl (.run (.plain rfl) (opG_q (ev_load rfl rfl ty_s_string rfl rfl)) (.run (.plain rfl) (opG_call (basic_None_run  v67 h68) rfl) .nil)) rfl ?_
              refine awpl_op rfl (opTo_q (d := 4) rfl rfl ev_assign) ?_
              refine awpl_op rfl (opTo_store rfl rfl rfl ty_api_Fault rfl rfl) ?_
              refine awpl_nil ?_
              refine kthen_normal ?_
              refine awp_pub (d := 4) (F := cS) (l := b34) rfl rfl ?_
              refine awp_ret ?_
              cases hr
              exact kret' rfl (.cons (res_tmp rfl) (.cons (res_cellN rfl rfl ty_api_Fault rfl rfl) .nil)) rfl
end Go.Proofs.Ytlpmbmilnoncdaa

/- A function of the program computes what its Lean function does. Written by program. -/
namespace Go.Proofs.Ytlpmbmilnoncdaa
open Go.RowKit
set_option maxRecDepth 100000
set_option maxHeartbeats 40000000
set_option linter.unusedVariables false
theorem alias_Loops_run (a0 : List TAlias) (r : (List Str) × TFault) (hr : alias_Loops a0 = some r) : Run Try.prog 33 [.l TAlias.pc a0] (.tup [.l cS r.1, .agg [.i r.2.Code, .i r.2.Index]]) := by
  unfold alias_Loops at hr
  refine run_of_awp (fn := Try.f33) ⟨Try.func33, rfl, by kernel_rfl⟩ rfl (fun _ => rfl) fun g0 hg => ?_
  refine awp_seq ?_
  refine awp_region ?_
  refine awpl_op rfl (opTo_q (d := 2) rfl rfl ev_assign) ?_
  refine awpl_op rfl (opTo_alloc (k := 3) 3 rfl ty_api_Fault (.inr ⟨rfl, rfl⟩) rfl rfl rfl) ?_
  refine awpl_nil ?_
  refine kthen_normal ?_
  refine awp_seq ?_
  refine awp_seq ?_
  refine awp_region ?_
  refine awpl_op rfl (opTo_q (d := 9) rfl rfl ev_move) ?_
  obtain ⟨v1, h2, hr⟩ := bind_some hr
  refine awpl_op rfl (opTo_call (k := 10) (alias_Validate_run a0 v1 h2) rfl rfl) ?_
  refine awpl_op rfl (opTo_alloc (k := 4) 4 rfl ty_api_Fault (.inr ⟨rfl, rfl⟩) rfl rfl rfl) ?_
  refine awpl_op rfl (opTo_store rfl rfl rfl ty_api_Fault rfl rfl) ?_
  refine awpl_nil ?_
  refine kthen_normal ?_
  refine awp_seq ?_
  refine awp_region ?_
  refine awpl_op rfl (opTo_q (d := 11) rfl rfl (ev_loadN rfl rfl ty_api_Fault rfl rfl)) ?_
  obtain ⟨v3, h4, hr⟩ := bind_some hr
  refine awpl_op rfl (opTo_call (k := 12) (basic_Failed_run v1 v3 h4) rfl rfl) ?_
  refine awpl_nil ?_
  refine kthen_normal ?_
  refine awp_cond rfl (fun c5 => ?_) (fun c5 => ?_)
  · replace hr := cond_t c5 hr
    refine awp_seq ?_
    refine awp_drawn 2 [(2, .pv (.sl (some true) [])), (13, .agg [.i v1.Code, .i v1.Index])] mixed (by kernel_rfl) rfl rfl (.run (.plain rfl) (opG_q (ev_loadN rfl rfl ty_api_Fault rfl rfl)) (.run (.plain rfl) (opG_q ev_assign) .nil)) rfl ?_
    refine awpl_op rfl (opTo_store rfl rfl rfl ty_api_Fault rfl rfl) ?_
    refine awpl_nil ?_
    refine kthen_normal ?_
    refine awp_ret ?_
    refine kthen_ret ?_
    cases hr
    exact kret' rfl (.cons (res_tmp rfl) (.cons (res_cellN rfl rfl ty_api_Fault rfl rfl) .nil)) rfl
  · replace hr := cond_f c5 hr
    refine awp_skip ?_
    refine kthen_normal ?_
    refine awp_seq ?_
    refine awp_region ?_
    refine awpl_op rfl (opTo_alloc (k := 5) 5 rfl ty_s_string (.inl rfl) rfl rfl rfl) ?_
    refine awpl_adoptC 1005 (o := 5) (j := 0) 9 1 rfl rfl rfl rfl ?_
    refine awpl_nil ?_
    refine kthen_normal ?_
    refine awp_seq ?_
    refine awp_seq ?_
    refine awp_region ?_
    refine awpl_op rfl (opTo_q (d := 14) rfl rfl ev_move) ?_
    refine awpl_op rfl (opTo_q (d := 15) rfl rfl (ev_llen (f := TAlias.pc) rfl ty_s_api_Alias.u)) ?_
    refine awpl_op rfl (opTo_q (d := 16) rfl rfl ev_move) ?_
    refine awpl_nil ?_
    refine kthen_normal ?_
    refine awp_block ?_
    obtain ⟨b7, hl, hr⟩ := bind_some hr
    refine awp_loop (alias_Loops_l1 a0) (fun s6 => [(0, .l TAlias.pc a0), (3, .ptr 3 0), (5, .ptr 5 0), (14, .l TAlias.pc a0), (15, .i ((a0.length : Int))), (16, .i s6.1)]) (fun s6 => [(1005, .row 9 false 1 (List.map cS s6.2)), (5, .cells [.hs 1005 0]), (3, .cells [.i 0, .i 0])]) (fun b7 => At (.exit 0) [(3, .ptr 3 0), (5, .ptr 5 0)] [(1005, .row 9 false 1 (List.map cS b7)), (5, .cells [.hs 1005 0]), (3, .cells [.i 0, .i 0])]) ?_ ((0, ([] : List Str))) hl (frLe_cons rfl (frLe_cons rfl (frLe_cons rfl (frLe_cons rfl (frLe_cons rfl (frLe_cons rfl frLe_nil)))))) (stoLe_cons rfl (stoLe_cons rfl (stoLe_cons rfl stoLe_nil))) ?_
    · intro s6 x8 hr
      unfold alias_Loops_l1 at hr
      refine awp_seq ?_
      refine awp_region ?_
      refine awpl_op rfl (opTo_q (d := 17) rfl rfl (ev_lss rfl rfl)) ?_
      refine awpl_nil ?_
      refine kthen_normal ?_
      refine awp_seq ?_
      refine awp_cond rfl (fun c9 => ?_) (fun c9 => ?_)
      · replace hr := cond_t c9 hr
        refine awp_skip ?_
        refine kthen_normal ?_
        obtain ⟨j10, hx, hy⟩ := bind_some hr
        refine awp_join (fun j10 => [(0, .l TAlias.pc a0), (3, .ptr 3 0), (5, .ptr 5 0), (14, .l TAlias.pc a0), (15, .i ((a0.length : Int))), (16, .i s6.1)]) (fun j10 => [(1005, .row 9 false 1 (List.map cS j10)), (5, .cells [.hs 1005 0]), (3, .cells [.i 0, .i 0])]) (fun z => j10 = z) ?_ ?_
        · have hr := hx
          clear hx hy
          refine awp_block ?_
          refine awp_seq ?_
          refine awp_region ?_
          obtain ⟨v11, h12, hr⟩ := bind_some hr
          refine awpl_op rfl (opTo_q (d := 18) rfl rfl (ev_idx (f := TAlias.pc) rfl rfl ty_s_api_Alias ty_api_Alias rfl h12)) ?_
          refine awpl_op rfl (opTo_q (d := 19) rfl rfl (ev_load_epN rfl ty_api_Alias rfl rfl)) ?_
          refine awpl_op rfl (opTo_alloc (k := 7) 7 rfl ty_api_Alias (.inr ⟨rfl, rfl⟩) rfl rfl rfl) ?_
          refine awpl_op rfl (opTo_store rfl rfl rfl ty_api_Alias rfl rfl) ?_
          refine awpl_nil ?_
          refine kthen_normal ?_
          refine awp_seq ?_
          refine awp_region ?_
          refine awpl_op rfl (opTo_q (d := 20) rfl rfl ev_move) ?_
          refine awpl_op rfl (opTo_q (d := 21) rfl rfl (ev_fieldAddr rfl ty_api_Alias.u rfl ty_s_string rfl)) ?_
          refine awpl_op rfl (opTo_q (d := 22) rfl rfl (ev_load rfl rfl ty_s_string rfl rfl)) ?_
          refine awpl_inl (fn := Try.f48) (args := [.l TAlias.pc a0, .l cS v11.To]) 5100000 5199999 [(0, .l TAlias.pc a0), (3, .ptr 3 0), (5, .ptr 5 0), (7, .ptr 7 0), (14, .l TAlias.pc a0), (15, .i ((a0.length : Int))), (16, .i s6.1)] (wanted_plain rfl) rfl ⟨Try.func48, rfl, by kernel_rfl⟩ rfl rfl (.cons rfl (.cons rfl (.cons rfl (.cons rfl (.cons rfl (.cons rfl (.cons rfl .nil))))))) fun T51 ds51 hT51 => ?_
          refine awp_seq ?_
          refine awp_region ?_
          refine awpl_op rfl (opTo_box (k := 2) 2 rfl rfl rfl rfl rfl) ?_
          refine awpl_op rfl (opTo_box (k := 3) 1003 rfl rfl rfl rfl rfl) ?_
          refine awpl_op rfl (opTo_q (d := 4) rfl rfl ev_assign) ?_
          refine awpl_nil ?_
          refine kthen_normal ?_
          refine awp_seq ?_
          refine awp_region ?_
          refine awpl_op rfl (opTo_q (d := 5) rfl rfl (ev_makeFunc rfl rfl)) ?_
          refine awpl_op rfl (opTo_q (d := 4) rfl rfl ev_assign) ?_
          refine awpl_nil ?_
          refine kthen_normal ?_
          refine awp_ret ?_
          refine inlK (cs := [.fn (.func 61) [] [.ptr 2 0, .ptr 1003 0]]) (fr'' := [(0, .l TAlias.pc a0), (3, .ptr 3 0), (5, .ptr 5 0), (7, .ptr 7 0), (14, .l TAlias.pc a0), (15, .i ((a0.length : Int))), (16, .i s6.1)]) (σ'' := [(1003, .cells [.l cS v11.To]), (2, .cells [.l TAlias.pc a0]), (7, .cells [.s v11.Address, .l cS v11.To]), (1005, .row 9 false 1 (List.map cS s6.2)), (5, .cells [.hs 1005 0]), (3, .cells [.i 0, .i 0])]) (.inl rfl) frLe_refl stoLe_refl (.cons (res_tmp rfl) .nil) (.cons rfl (.cons rfl (.cons rfl (.cons rfl (.cons rfl (.cons rfl (.cons rfl .nil))))))) rfl (stoLe_cons rfl (stoLe_cons rfl (stoLe_cons rfl (stoLe_cons rfl (stoLe_cons rfl (stoLe_cons rfl stoLe_nil)))))) ?_
          refine awpl_nil ?_
          refine kthen_normal ?_
          refine awp_block ?_
          refine awp_rangef (fn0 := Try.f61) 5200000 5299998 5299999 [(0, .l TAlias.pc a0), (3, .ptr 3 0), (5, .ptr 5 0), (7, .ptr 7 0), (14, .l TAlias.pc a0), (15, .i ((a0.length : Int))), (16, .i s6.1), (23, .fn (.func 61) [] [.ptr 2 0, .ptr 1003 0])] rfl rfl rfl ⟨Try.func61, rfl, by kernel_rfl⟩ rfl rfl rfl rfl rfl (.cons rfl (.cons rfl (.cons rfl (.cons rfl (.cons rfl (.cons rfl (.cons rfl (.cons rfl .nil)))))))) fun T52 b52 L52 ds52 hT52 hLs52 hLp52 hLt52 hLq52 hLa52 hLb52 => ?_
          refine awp_seq ?_
          refine awp_region ?_
          refine awpl_op rfl (opTo_q (d := 9) rfl rfl (ev_load rfl rfl ty_s_api_Alias rfl rfl)) ?_
          refine awpl_inl (fn := Try.f47) (args := [.l TAlias.pc a0]) 5300000 5399999 [(0, .fn (.yield b52) [] []), (2, .ptr 1003 0)] (wanted_plain rfl) rfl ⟨Try.func47, rfl, by kernel_rfl⟩ rfl rfl (.cons rfl (.cons rfl .nil)) fun T53 ds53 hT53 => ?_
          refine awp_seq ?_
          refine awp_region ?_
          refine awpl_op rfl (opTo_q (d := 2) rfl rfl ev_assign) ?_
          refine awpl_nil ?_
          refine kthen_normal ?_
          refine awp_seq ?_
          refine awp_region ?_
          refine awpl_op rfl (opTo_makeMap (k0 := 6) 1006 false rfl rfl rfl) ?_
          refine awpl_op rfl (opTo_q (d := 3) rfl rfl ev_assign) ?_
          refine awpl_nil ?_
          refine kthen_normal ?_
          refine awp_seq ?_
          refine awp_seq ?_
          refine awp_region ?_
          refine awpl_op rfl (opTo_q (d := 7) rfl rfl ev_move) ?_
          refine awpl_op rfl (opTo_q (d := 8) rfl rfl (ev_llen (f := TAlias.pc) rfl ty_s_api_Alias.u)) ?_
          refine awpl_op rfl (opTo_q (d := 9) rfl rfl ev_move) ?_
          refine awpl_nil ?_
          refine kthen_normal ?_
          refine awp_block ?_
          obtain ⟨b14, hl, hr⟩ := bind_some hr
          refine awp_loop (alias_Loops_l2 a0) (fun s13 => [(3, .mp 1006), (7, .l TAlias.pc a0), (8, .i ((a0.length : Int))), (9, .i s13.1)]) (fun s13 => [(1006, .mapo false (menc keyS (cL cS) s13.2)), (5399999, .sus g0.w.heap.size ds53), (5300000, .hold (.fn (.yield b52) [] []) (T53.getD 0 undef)), (5300002, .hold (.ptr 1003 0) (T53.getD 2 undef)), (5299999, .sus g0.w.heap.size ds52), (5299998, .lp b52 L52), (5200000, .hold (.l TAlias.pc a0) (T52.getD 0 undef)), (5200003, .hold (.ptr 3 0) (T52.getD 3 undef)), (5200005, .hold (.ptr 5 0) (T52.getD 5 undef)), (5200007, .hold (.ptr 7 0) (T52.getD 7 undef)), (5200014, .hold (.l TAlias.pc a0) (T52.getD 14 undef)), (5200015, .hold (.i ((a0.length : Int))) (T52.getD 15 undef)), (5200016, .hold (.i s6.1) (T52.getD 16 undef)), (5200023, .hold (.fn (.func 61) [] [.ptr 2 0, .ptr 1003 0]) (T52.getD 23 undef)), (1003, .cells [.l cS v11.To]), (2, .cells [.l TAlias.pc a0]), (7, .cells [.s v11.Address, .l cS v11.To]), (1005, .row 9 false 1 (List.map cS s6.2)), (5, .cells [.hs 1005 0]), (3, .cells [.i 0, .i 0])]) (fun b14 => At (.exit 0) [(3, .mp 1006)] [(1006, .mapo false (menc keyS (cL cS) b14)), (5399999, .sus g0.w.heap.size ds53), (5300000, .hold (.fn (.yield b52) [] []) (T53.getD 0 undef)), (5300002, .hold (.ptr 1003 0) (T53.getD 2 undef)), (5299999, .sus g0.w.heap.size ds52), (5299998, .lp b52 L52), (5200000, .hold (.l TAlias.pc a0) (T52.getD 0 undef)), (5200003, .hold (.ptr 3 0) (T52.getD 3 undef)), (5200005, .hold (.ptr 5 0) (T52.getD 5 undef)), (5200007, .hold (.ptr 7 0) (T52.getD 7 undef)), (5200014, .hold (.l TAlias.pc a0) (T52.getD 14 undef)), (5200015, .hold (.i ((a0.length : Int))) (T52.getD 15 undef)), (5200016, .hold (.i s6.1) (T52.getD 16 undef)), (5200023, .hold (.fn (.func 61) [] [.ptr 2 0, .ptr 1003 0]) (T52.getD 23 undef)), (1003, .cells [.l cS v11.To]), (2, .cells [.l TAlias.pc a0]), (7, .cells [.s v11.Address, .l cS v11.To]), (1005, .row 9 false 1 (List.map cS s6.2)), (5, .cells [.hs 1005 0]), (3, .cells [.i 0, .i 0])]) ?_ ((0, ([] : List (Str × (List Str))))) hl (frLe_cons rfl (frLe_cons rfl (frLe_cons rfl (frLe_cons rfl frLe_nil)))) (stoLe_cons rfl (stoLe_cons rfl (stoLe_cons rfl (stoLe_cons rfl (stoLe_cons rfl (stoLe_cons rfl (stoLe_cons rfl (stoLe_cons rfl (stoLe_cons rfl (stoLe_cons rfl (stoLe_cons rfl (stoLe_cons rfl (stoLe_cons rfl (stoLe_cons rfl (stoLe_cons rfl (stoLe_cons rfl (stoLe_cons rfl (stoLe_cons rfl (stoLe_cons rfl (stoLe_cons rfl stoLe_nil)))))))))))))))))))) ?_
          · intro s13 x15 hr
            unfold alias_Loops_l2 at hr
            refine awp_seq ?_
            refine awp_region ?_
            refine awpl_op rfl (opTo_q (d := 10) rfl rfl (ev_lss rfl rfl)) ?_
            refine awpl_nil ?_
            refine kthen_normal ?_
            refine awp_seq ?_
            refine awp_cond rfl (fun c16 => ?_) (fun c16 => ?_)
            · replace hr := cond_t c16 hr
              refine awp_skip ?_
              refine kthen_normal ?_
              refine awp_seq ?_
              refine awp_block ?_
              refine awp_seq ?_
              refine awp_region ?_
              obtain ⟨v17, h18, hr⟩ := bind_some hr
              refine awpl_op rfl (opTo_q (d := 11) rfl rfl (ev_idx (f := TAlias.pc) rfl rfl ty_s_api_Alias ty_api_Alias rfl h18)) ?_
              refine awpl_op rfl (opTo_q (d := 12) rfl rfl (ev_load_epN rfl ty_api_Alias rfl rfl)) ?_
              refine awpl_op rfl (opTo_alloc (k := 5) 2005 rfl ty_api_Alias (.inr ⟨rfl, rfl⟩) rfl rfl rfl) ?_
              refine awpl_op rfl (opTo_store rfl rfl rfl ty_api_Alias rfl rfl) ?_
              refine awpl_nil ?_
              refine kthen_normal ?_
              refine awp_region ?_
              refine awpl_op rfl (opTo_q (d := 13) rfl rfl ev_move) ?_
              refine awpl_op rfl (opTo_q (d := 14) rfl rfl (ev_fieldAddr rfl ty_api_Alias.u rfl ty_string rfl)) ?_
              refine awpl_op rfl (opTo_q (d := 15) rfl rfl (ev_load rfl rfl ty_string rfl rfl)) ?_
              refine awpl_op rfl (opTo_q (d := 16) rfl rfl (ev_fieldAddr rfl ty_api_Alias.u rfl ty_s_string rfl)) ?_
              refine awpl_op rfl (opTo_q (d := 17) rfl rfl (ev_load rfl rfl ty_s_string rfl rfl)) ?_
              refine awpl_op rfl (opTo_mapUpdate (KK := keyS) (F := (cL cS)) (es := s13.2) (k := v17.Address) (v := v17.To) rfl rfl rfl rfl rfl ty_map_string_s_string.u ty_string.u) ?_
              refine awpl_nil ?_
              refine kblock_normal ?_
              refine kthen_normal ?_
              refine awp_region ?_
              refine awpl_op rfl (opTo_q (d := 18) rfl rfl (ev_add rfl rfl)) ?_
              refine awpl_op rfl (opTo_q (d := 9) rfl rfl ev_move) ?_
              refine awpl_nil ?_
              cases hr
              exact ⟨rfl, (frLe_cons rfl (frLe_cons rfl (frLe_cons rfl (frLe_cons rfl frLe_nil)))), (stoLe_cons rfl (stoLe_cons rfl (stoLe_cons rfl (stoLe_cons rfl (stoLe_cons rfl (stoLe_cons rfl (stoLe_cons rfl (stoLe_cons rfl (stoLe_cons rfl (stoLe_cons rfl (stoLe_cons rfl (stoLe_cons rfl (stoLe_cons rfl (stoLe_cons rfl (stoLe_cons rfl (stoLe_cons rfl (stoLe_cons rfl (stoLe_cons rfl (stoLe_cons rfl (stoLe_cons rfl stoLe_nil))))))))))))))))))))⟩
            · replace hr := cond_f c16 hr
              refine awp_exit ?_
              refine kthen_exit ?_
              cases hr
              exact ⟨by simp, rfl, (frLe_cons rfl frLe_nil), (stoLe_cons rfl (stoLe_cons rfl (stoLe_cons rfl (stoLe_cons rfl (stoLe_cons rfl (stoLe_cons rfl (stoLe_cons rfl (stoLe_cons rfl (stoLe_cons rfl (stoLe_cons rfl (stoLe_cons rfl (stoLe_cons rfl (stoLe_cons rfl (stoLe_cons rfl (stoLe_cons rfl (stoLe_cons rfl (stoLe_cons rfl (stoLe_cons rfl (stoLe_cons rfl (stoLe_cons rfl stoLe_nil))))))))))))))))))))⟩
          · intro e fr2 st2 hq
            obtain ⟨rfl, hf, hs⟩ := hq
            refine kblock_exit ?_
            refine kthen_normal ?_
            refine awp_le hf hs ?_
            refine awp_seq ?_
            refine awp_region ?_
            refine awpl_op rfl (opTo_q (d := 19) rfl rfl ev_move) ?_
            refine awpl_op rfl (opTo_q (d := 2) rfl rfl ev_assign) ?_
            refine awpl_nil ?_
            refine kthen_normal ?_
            refine awp_ret ?_
            refine inlK (cs := [.mp 1006]) (fr'' := [(0, .fn (.yield b52) [] []), (2, .ptr 1003 0)]) (σ'' := [(1006, .mapo false (menc keyS (cL cS) b14)), (5299999, .sus g0.w.heap.size ds52), (5299998, .lp b52 L52), (5200000, .hold (.l TAlias.pc a0) (T52.getD 0 undef)), (5200003, .hold (.ptr 3 0) (T52.getD 3 undef)), (5200005, .hold (.ptr 5 0) (T52.getD 5 undef)), (5200007, .hold (.ptr 7 0) (T52.getD 7 undef)), (5200014, .hold (.l TAlias.pc a0) (T52.getD 14 undef)), (5200015, .hold (.i ((a0.length : Int))) (T52.getD 15 undef)), (5200016, .hold (.i s6.1) (T52.getD 16 undef)), (5200023, .hold (.fn (.func 61) [] [.ptr 2 0, .ptr 1003 0]) (T52.getD 23 undef)), (1003, .cells [.l cS v11.To]), (2, .cells [.l TAlias.pc a0]), (7, .cells [.s v11.Address, .l cS v11.To]), (1005, .row 9 false 1 (List.map cS s6.2)), (5, .cells [.hs 1005 0]), (3, .cells [.i 0, .i 0])]) (.inl rfl) frLe_refl stoLe_refl (.cons (res_tmp rfl) .nil) (.cons rfl (.cons rfl .nil)) rfl (stoLe_cons rfl (stoLe_cons rfl (stoLe_cons rfl (stoLe_cons rfl (stoLe_cons rfl (stoLe_cons rfl (stoLe_cons rfl (stoLe_cons rfl (stoLe_cons rfl (stoLe_cons rfl (stoLe_cons rfl (stoLe_cons rfl (stoLe_cons rfl (stoLe_cons rfl (stoLe_cons rfl (stoLe_cons rfl (stoLe_cons rfl stoLe_nil))))))))))))))))) ?_
            refine awpl_op rfl (opTo_q (d := 4) rfl rfl ev_assign) ?_
            refine awpl_nil ?_
            refine kthen_normal ?_
            refine awp_seq ?_
            refine awp_region ?_
            refine awpl_op rfl (opTo_makeMap (k0 := 11) 1011 false rfl rfl rfl) ?_
            refine awpl_op rfl (opTo_alloc (k := 5) 2005 rfl ty_map_string_bool (.inl rfl) rfl rfl rfl) ?_
            refine awpl_op rfl (opTo_store rfl rfl rfl ty_map_string_bool rfl rfl) ?_
            refine awpl_nil ?_
            refine kthen_normal ?_
            refine awp_seq ?_
            refine awp_region ?_
            refine awpl_op rfl (opTo_alloc (k := 6) 6 rfl ty_s_string (.inl rfl) rfl rfl rfl) ?_
            refine awpl_adoptC 2006 (o := 6) (j := 0) 9 1 rfl rfl rfl rfl ?_
            refine awpl_nil ?_
            refine kthen_normal ?_
            refine awp_seq ?_
            refine awp_region ?_
            refine awpl_op rfl (opTo_q (d := 12) rfl rfl (ev_makeFunc rfl rfl)) ?_
            refine awpl_op rfl (opTo_q (d := 7) rfl rfl ev_assign) ?_
            refine awpl_nil ?_
            refine kthen_normal ?_
            refine awp_seq ?_
            refine awp_region ?_
            refine awpl_op rfl (opTo_q (d := 13) rfl rfl ev_move) ?_
            refine awpl_op rfl (opTo_q (d := 14) rfl rfl (ev_load rfl rfl ty_s_string rfl rfl)) ?_
            refine awpl_inl (fn := Try.f62) (args := [.l cS v11.To, .ptr 2005 0, .ptr 6 0]) 5400000 5499999 [(0, .fn (.yield b52) [] []), (4, .mp 1006), (6, .ptr 6 0), (7, .fn (.func 62) [] [.ptr 2005 0, .ptr 6 0])] (wanted_plain rfl) rfl ⟨Try.func62, rfl, by kernel_rfl⟩ rfl rfl (.cons rfl (.cons rfl (.cons rfl (.cons rfl .nil)))) fun T54 ds54 hT54 => ?_
            refine awp_seq ?_
            refine awp_region ?_
            refine awpl_op rfl (opTo_q (d := 6) rfl rfl ev_move) ?_
            refine awpl_op rfl (opTo_q (d := 7) rfl rfl (ev_llen (f := cS) rfl ty_s_string.u)) ?_
            refine awpl_op rfl (opTo_q (d := 8) rfl rfl ev_move) ?_
            refine awpl_nil ?_
            refine kthen_normal ?_
            refine awp_block ?_
            obtain ⟨b20, hl, hr⟩ := bind_some hr
            refine awp_loop (alias_Loops_l3 v11) (fun s19 => [(1, .ptr 2005 0), (2, .ptr 6 0), (6, .l cS v11.To), (7, .i ((v11.To.length : Int))), (8, .i s19.1)]) (fun s19 => [(5499999, .sus g0.w.heap.size ds54), (5400000, .hold (.fn (.yield b52) [] []) (T54.getD 0 undef)), (5400004, .hold (.mp 1006) (T54.getD 4 undef)), (5400006, .hold (.ptr 6 0) (T54.getD 6 undef)), (5400007, .hold (.fn (.func 62) [] [.ptr 2005 0, .ptr 6 0]) (T54.getD 7 undef)), (2006, .row 9 false 1 (List.map cS s19.2.1)), (6, .cells [.hs 2006 0]), (2005, .cells [.mp 1011]), (1011, .mapo false (menc keyS cB s19.2.2)), (1006, .mapo false (menc keyS (cL cS) b14)), (5299999, .sus g0.w.heap.size ds52), (5299998, .lp b52 L52), (5200000, .hold (.l TAlias.pc a0) (T52.getD 0 undef)), (5200003, .hold (.ptr 3 0) (T52.getD 3 undef)), (5200005, .hold (.ptr 5 0) (T52.getD 5 undef)), (5200007, .hold (.ptr 7 0) (T52.getD 7 undef)), (5200014, .hold (.l TAlias.pc a0) (T52.getD 14 undef)), (5200015, .hold (.i ((a0.length : Int))) (T52.getD 15 undef)), (5200016, .hold (.i s6.1) (T52.getD 16 undef)), (5200023, .hold (.fn (.func 61) [] [.ptr 2 0, .ptr 1003 0]) (T52.getD 23 undef)), (1003, .cells [.l cS v11.To]), (2, .cells [.l TAlias.pc a0]), (7, .cells [.s v11.Address, .l cS v11.To]), (1005, .row 9 false 1 (List.map cS s6.2)), (5, .cells [.hs 1005 0]), (3, .cells [.i 0, .i 0])]) (fun b20 => At (.exit 0) [] [(5499999, .sus g0.w.heap.size ds54), (5400000, .hold (.fn (.yield b52) [] []) (T54.getD 0 undef)), (5400004, .hold (.mp 1006) (T54.getD 4 undef)), (5400006, .hold (.ptr 6 0) (T54.getD 6 undef)), (5400007, .hold (.fn (.func 62) [] [.ptr 2005 0, .ptr 6 0]) (T54.getD 7 undef)), (2006, .row 9 false 1 (List.map cS b20.1)), (6, .cells [.hs 2006 0]), (2005, .cells [.mp 1011]), (1011, .mapo false (menc keyS cB b20.2)), (1006, .mapo false (menc keyS (cL cS) b14)), (5299999, .sus g0.w.heap.size ds52), (5299998, .lp b52 L52), (5200000, .hold (.l TAlias.pc a0) (T52.getD 0 undef)), (5200003, .hold (.ptr 3 0) (T52.getD 3 undef)), (5200005, .hold (.ptr 5 0) (T52.getD 5 undef)), (5200007, .hold (.ptr 7 0) (T52.getD 7 undef)), (5200014, .hold (.l TAlias.pc a0) (T52.getD 14 undef)), (5200015, .hold (.i ((a0.length : Int))) (T52.getD 15 undef)), (5200016, .hold (.i s6.1) (T52.getD 16 undef)), (5200023, .hold (.fn (.func 61) [] [.ptr 2 0, .ptr 1003 0]) (T52.getD 23 undef)), (1003, .cells [.l cS v11.To]), (2, .cells [.l TAlias.pc a0]), (7, .cells [.s v11.Address, .l cS v11.To]), (1005, .row 9 false 1 (List.map cS s6.2)), (5, .cells [.hs 1005 0]), (3, .cells [.i 0, .i 0])]) ?_ ((0, ([] : List Str), ([] : List (Str × Bool)))) hl (frLe_cons rfl (frLe_cons rfl (frLe_cons rfl (frLe_cons rfl (frLe_cons rfl frLe_nil))))) (stoLe_cons rfl (stoLe_cons rfl (stoLe_cons rfl (stoLe_cons rfl (stoLe_cons rfl (stoLe_cons rfl (stoLe_cons rfl (stoLe_cons rfl (stoLe_cons rfl (stoLe_cons rfl (stoLe_cons rfl (stoLe_cons rfl (stoLe_cons rfl (stoLe_cons rfl (stoLe_cons rfl (stoLe_cons rfl (stoLe_cons rfl (stoLe_cons rfl (stoLe_cons rfl (stoLe_cons rfl (stoLe_cons rfl (stoLe_cons rfl (stoLe_cons rfl (stoLe_cons rfl (stoLe_cons rfl (stoLe_cons rfl stoLe_nil)))))))))))))))))))))))))) ?_
            · intro s19 x21 hr
              unfold alias_Loops_l3 at hr
              refine awp_seq ?_
              refine awp_region ?_
              refine awpl_op rfl (opTo_q (d := 9) rfl rfl (ev_lss rfl rfl)) ?_
              refine awpl_nil ?_
              refine kthen_normal ?_
              refine awp_seq ?_
              refine awp_cond rfl (fun c22 => ?_) (fun c22 => ?_)
              · replace hr := cond_t c22 hr
                refine awp_skip ?_
                refine kthen_normal ?_
                obtain ⟨j23, hx, hy⟩ := bind_some hr
                refine awp_join (fun j23 => [(1, .ptr 2005 0), (2, .ptr 6 0), (6, .l cS v11.To), (7, .i ((v11.To.length : Int))), (8, .i s19.1)]) (fun j23 => [(5499999, .sus g0.w.heap.size ds54), (5400000, .hold (.fn (.yield b52) [] []) (T54.getD 0 undef)), (5400004, .hold (.mp 1006) (T54.getD 4 undef)), (5400006, .hold (.ptr 6 0) (T54.getD 6 undef)), (5400007, .hold (.fn (.func 62) [] [.ptr 2005 0, .ptr 6 0]) (T54.getD 7 undef)), (2006, .row 9 false 1 (List.map cS j23.1)), (6, .cells [.hs 2006 0]), (2005, .cells [.mp 1011]), (1011, .mapo false (menc keyS cB j23.2)), (1006, .mapo false (menc keyS (cL cS) b14)), (5299999, .sus g0.w.heap.size ds52), (5299998, .lp b52 L52), (5200000, .hold (.l TAlias.pc a0) (T52.getD 0 undef)), (5200003, .hold (.ptr 3 0) (T52.getD 3 undef)), (5200005, .hold (.ptr 5 0) (T52.getD 5 undef)), (5200007, .hold (.ptr 7 0) (T52.getD 7 undef)), (5200014, .hold (.l TAlias.pc a0) (T52.getD 14 undef)), (5200015, .hold (.i ((a0.length : Int))) (T52.getD 15 undef)), (5200016, .hold (.i s6.1) (T52.getD 16 undef)), (5200023, .hold (.fn (.func 61) [] [.ptr 2 0, .ptr 1003 0]) (T52.getD 23 undef)), (1003, .cells [.l cS v11.To]), (2, .cells [.l TAlias.pc a0]), (7, .cells [.s v11.Address, .l cS v11.To]), (1005, .row 9 false 1 (List.map cS s6.2)), (5, .cells [.hs 1005 0]), (3, .cells [.i 0, .i 0])]) (fun z => j23 = z) ?_ ?_
                · have hr := hx
                  clear hx hy
                  refine awp_block ?_
                  refine awp_seq ?_
                  refine awp_region ?_
                  obtain ⟨v24, h25, hr⟩ := bind_some hr
                  refine awpl_op rfl (opTo_q (d := 10) rfl rfl (ev_idx (f := cS) rfl rfl ty_s_string ty_string rfl h25)) ?_
                  refine awpl_op rfl (opTo_q (d := 11) rfl rfl (ev_load_ep rfl ty_string rfl rfl)) ?_
                  refine awpl_op rfl (opTo_q (d := 5) rfl rfl ev_assign) ?_
                  refine awpl_nil ?_
                  refine kthen_normal ?_
                  refine awp_seq ?_
                  refine awp_region ?_
                  refine awpl_op rfl (opTo_q (d := 12) rfl rfl (ev_load rfl rfl ty_map_string_bool rfl rfl)) ?_
                  refine awpl_op rfl (opTo_q (d := 13) rfl rfl ev_move) ?_
                  refine awpl_op rfl (opTo_q (d := 14) rfl rfl (ev_lookup (KK := keyS) (F := cB) (es := s19.2.2) (k := v24) (z := false) rfl rfl rfl ty_map_string_bool.u ty_string.u ty_bool rfl)) ?_
                  refine awpl_op rfl (opTo_q (d := 15) rfl rfl (ev_not rfl)) ?_
                  refine awpl_nil ?_
                  refine kthen_normal ?_
                  refine awp_cond rfl (fun c26 => ?_) (fun c26 => ?_)
                  · replace hr := cond_t c26 hr
                    refine awp_seq ?_
                    refine awp_region ?_
                    refine awpl_op rfl (opTo_q (d := 16) rfl rfl (ev_load rfl rfl ty_map_string_bool rfl rfl)) ?_
                    refine awpl_op rfl (opTo_q (d := 17) rfl rfl ev_move) ?_
                    refine awpl_op rfl (opTo_mapUpdate (KK := keyS) (F := cB) (es := s19.2.2) (k := v24) (v := true) rfl rfl rfl rfl rfl ty_map_string_bool.u ty_string.u) ?_
                    refine awpl_nil ?_
                    refine kthen_normal ?_
                    refine awp_region ?_
                    refine awpl_op rfl (opTo_q (d := 18) rfl rfl (ev_load rfl rfl ty_s_string rfl rfl)) ?_
                    refine awpl_op rfl (opTo_q (d := 19) rfl rfl ev_move) ?_
                    refine awpl_op rfl (opTo_g (d := 20) rfl rfl (opG_lit (F := cS) (l := ([v24] : List Str)) ty_s_string ty_string rfl (fun _ => rfl) rfl rfl)) ?_
                    obtain ⟨v27, h28, hr⟩ := bind_some hr
                    refine awpl_op rfl (opTo_append (k := 21) (F := cS) (l := s19.2.1) (xs := (([v24] : List Str))) (lim := 8796093022208) rfl rfl rfl rfl ty_s_string ty_string rfl rfl (fun _ => rfl) rfl h28) ?_
                    refine awpl_op rfl (opTo_store rfl rfl rfl ty_s_string rfl rfl) ?_
                    refine awpl_nil ?_
                    refine kblock_normal ?_
                    cases hr
                    exact joinK_normal _ rfl (frLe_cons rfl (frLe_cons rfl (frLe_cons rfl (frLe_cons rfl (frLe_cons rfl frLe_nil))))) (stoLe_cons rfl (stoLe_cons rfl (stoLe_cons rfl (stoLe_cons rfl (stoLe_cons rfl (stoLe_cons rfl (stoLe_cons rfl (stoLe_cons rfl (stoLe_cons rfl (stoLe_cons rfl (stoLe_cons rfl (stoLe_cons rfl (stoLe_cons rfl (stoLe_cons rfl (stoLe_cons rfl (stoLe_cons rfl (stoLe_cons rfl (stoLe_cons rfl (stoLe_cons rfl (stoLe_cons rfl (stoLe_cons rfl (stoLe_cons rfl (stoLe_cons rfl (stoLe_cons rfl (stoLe_cons rfl (stoLe_cons rfl stoLe_nil))))))))))))))))))))))))))
                  · replace hr := cond_f c26 hr
                    refine awp_skip ?_
                    refine kblock_normal ?_
                    cases hr
                    exact joinK_normal _ rfl (frLe_cons rfl (frLe_cons rfl (frLe_cons rfl (frLe_cons rfl (frLe_cons rfl frLe_nil))))) (stoLe_cons rfl (stoLe_cons rfl (stoLe_cons rfl (stoLe_cons rfl (stoLe_cons rfl (stoLe_cons rfl (stoLe_cons rfl (stoLe_cons rfl (stoLe_cons rfl (stoLe_cons rfl (stoLe_cons rfl (stoLe_cons rfl (stoLe_cons rfl (stoLe_cons rfl (stoLe_cons rfl (stoLe_cons rfl (stoLe_cons rfl (stoLe_cons rfl (stoLe_cons rfl (stoLe_cons rfl (stoLe_cons rfl (stoLe_cons rfl (stoLe_cons rfl (stoLe_cons rfl (stoLe_cons rfl (stoLe_cons rfl stoLe_nil))))))))))))))))))))))))))
                · rintro _ rfl
                  have hr := hy
                  clear hx hy
                  refine awp_region ?_
                  refine awpl_op rfl (opTo_q (d := 22) rfl rfl (ev_add rfl rfl)) ?_
                  refine awpl_op rfl (opTo_q (d := 8) rfl rfl ev_move) ?_
                  refine awpl_nil ?_
                  cases hr
                  exact ⟨rfl, (frLe_cons rfl (frLe_cons rfl (frLe_cons rfl (frLe_cons rfl (frLe_cons rfl frLe_nil))))), (stoLe_cons rfl (stoLe_cons rfl (stoLe_cons rfl (stoLe_cons rfl (stoLe_cons rfl (stoLe_cons rfl (stoLe_cons rfl (stoLe_cons rfl (stoLe_cons rfl (stoLe_cons rfl (stoLe_cons rfl (stoLe_cons rfl (stoLe_cons rfl (stoLe_cons rfl (stoLe_cons rfl (stoLe_cons rfl (stoLe_cons rfl (stoLe_cons rfl (stoLe_cons rfl (stoLe_cons rfl (stoLe_cons rfl (stoLe_cons rfl (stoLe_cons rfl (stoLe_cons rfl (stoLe_cons rfl (stoLe_cons rfl stoLe_nil))))))))))))))))))))))))))⟩
              · replace hr := cond_f c22 hr
                refine awp_exit ?_
                refine kthen_exit ?_
                cases hr
                exact ⟨by simp, rfl, frLe_nil, (stoLe_cons rfl (stoLe_cons rfl (stoLe_cons rfl (stoLe_cons rfl (stoLe_cons rfl (stoLe_cons rfl (stoLe_cons rfl (stoLe_cons rfl (stoLe_cons rfl (stoLe_cons rfl (stoLe_cons rfl (stoLe_cons rfl (stoLe_cons rfl (stoLe_cons rfl (stoLe_cons rfl (stoLe_cons rfl (stoLe_cons rfl (stoLe_cons rfl (stoLe_cons rfl (stoLe_cons rfl (stoLe_cons rfl (stoLe_cons rfl (stoLe_cons rfl (stoLe_cons rfl (stoLe_cons rfl (stoLe_cons rfl stoLe_nil))))))))))))))))))))))))))⟩
            · intro e fr2 st2 hq
              obtain ⟨rfl, hf, hs⟩ := hq
              refine kblock_exit ?_
              refine inlK (cs := []) (fr'' := [(0, .fn (.yield b52) [] []), (4, .mp 1006), (6, .ptr 6 0), (7, .fn (.func 62) [] [.ptr 2005 0, .ptr 6 0])]) (σ'' := [(2006, .row 9 false 1 (List.map cS b20.1)), (6, .cells [.hs 2006 0]), (2005, .cells [.mp 1011]), (1011, .mapo false (menc keyS cB b20.2)), (1006, .mapo false (menc keyS (cL cS) b14)), (5299999, .sus g0.w.heap.size ds52), (5299998, .lp b52 L52), (5200000, .hold (.l TAlias.pc a0) (T52.getD 0 undef)), (5200003, .hold (.ptr 3 0) (T52.getD 3 undef)), (5200005, .hold (.ptr 5 0) (T52.getD 5 undef)), (5200007, .hold (.ptr 7 0) (T52.getD 7 undef)), (5200014, .hold (.l TAlias.pc a0) (T52.getD 14 undef)), (5200015, .hold (.i ((a0.length : Int))) (T52.getD 15 undef)), (5200016, .hold (.i s6.1) (T52.getD 16 undef)), (5200023, .hold (.fn (.func 61) [] [.ptr 2 0, .ptr 1003 0]) (T52.getD 23 undef)), (1003, .cells [.l cS v11.To]), (2, .cells [.l TAlias.pc a0]), (7, .cells [.s v11.Address, .l cS v11.To]), (1005, .row 9 false 1 (List.map cS s6.2)), (5, .cells [.hs 1005 0]), (3, .cells [.i 0, .i 0])]) (.inr rfl) hf hs .nil (.cons rfl (.cons rfl (.cons rfl (.cons rfl .nil)))) rfl (stoLe_cons rfl (stoLe_cons rfl (stoLe_cons rfl (stoLe_cons rfl (stoLe_cons rfl (stoLe_cons rfl (stoLe_cons rfl (stoLe_cons rfl (stoLe_cons rfl (stoLe_cons rfl (stoLe_cons rfl (stoLe_cons rfl (stoLe_cons rfl (stoLe_cons rfl (stoLe_cons rfl (stoLe_cons rfl (stoLe_cons rfl (stoLe_cons rfl (stoLe_cons rfl (stoLe_cons rfl (stoLe_cons rfl stoLe_nil))))))))))))))))))))) ?_
              refine awpl_nil ?_
              refine kthen_normal ?_
              refine awp_block ?_
              obtain ⟨o32, hl, hr⟩ := bind_some hr
              refine awp_loop (alias_Loops_l4 s6 v11 b14) (fun s29 => [(0, .fn (.yield b52) [] []), (4, .mp 1006), (6, .ptr 6 0), (7, .fn (.func 62) [] [.ptr 2005 0, .ptr 6 0])]) (fun s29 => [(2006, .row 9 false 1 (List.map cS s29.1)), (6, .cells [.hs 2006 0]), (2005, .cells [.mp 1011]), (1011, .mapo false (menc keyS cB s29.2)), (1006, .mapo false (menc keyS (cL cS) b14)), (5299999, .sus g0.w.heap.size ds52), (5299998, .lp b52 L52), (5200000, .hold (.l TAlias.pc a0) (T52.getD 0 undef)), (5200003, .hold (.ptr 3 0) (T52.getD 3 undef)), (5200005, .hold (.ptr 5 0) (T52.getD 5 undef)), (5200007, .hold (.ptr 7 0) (T52.getD 7 undef)), (5200014, .hold (.l TAlias.pc a0) (T52.getD 14 undef)), (5200015, .hold (.i ((a0.length : Int))) (T52.getD 15 undef)), (5200016, .hold (.i s6.1) (T52.getD 16 undef)), (5200023, .hold (.fn (.func 61) [] [.ptr 2 0, .ptr 1003 0]) (T52.getD 23 undef)), (1003, .cells [.l cS v11.To]), (2, .cells [.l TAlias.pc a0]), (7, .cells [.s v11.Address, .l cS v11.To]), (1005, .row 9 false 1 (List.map cS s6.2)), (5, .cells [.hs 1005 0]), (3, .cells [.i 0, .i 0])]) (fun o => match o with | .inl b30 => At (.exit 0) [] [(5299999, .sus g0.w.heap.size ds52), (5299998, .lp b52 L52), (5200000, .hold (.l TAlias.pc a0) (T52.getD 0 undef)), (5200003, .hold (.ptr 3 0) (T52.getD 3 undef)), (5200005, .hold (.ptr 5 0) (T52.getD 5 undef)), (5200007, .hold (.ptr 7 0) (T52.getD 7 undef)), (5200014, .hold (.l TAlias.pc a0) (T52.getD 14 undef)), (5200015, .hold (.i ((a0.length : Int))) (T52.getD 15 undef)), (5200016, .hold (.i s6.1) (T52.getD 16 undef)), (5200023, .hold (.fn (.func 61) [] [.ptr 2 0, .ptr 1003 0]) (T52.getD 23 undef)), (1003, .cells [.l cS v11.To]), (2, .cells [.l TAlias.pc a0]), (7, .cells [.s v11.Address, .l cS v11.To]), (1005, .row 9 false 1 (List.map cS s6.2)), (5, .cells [.hs 1005 0]), (3, .cells [.i 0, .i 0])] | .inr b31 => At .ret [] [(5299999, .sus g0.w.heap.size ds52), (5299998, .lp b52 ((stop L52 (.exit 2)))), (5200000, .hold (.l TAlias.pc a0) (T52.getD 0 undef)), (5200003, .hold (.ptr 3 0) (T52.getD 3 undef)), (5200005, .hold (.ptr 5 0) (T52.getD 5 undef)), (5200007, .hold (.ptr 7 0) (T52.getD 7 undef)), (5200014, .hold (.l TAlias.pc a0) (T52.getD 14 undef)), (5200015, .hold (.i ((a0.length : Int))) (T52.getD 15 undef)), (5200016, .hold (.i s6.1) (T52.getD 16 undef)), (5200023, .hold (.fn (.func 61) [] [.ptr 2 0, .ptr 1003 0]) (T52.getD 23 undef)), (1003, .cells [.l cS v11.To]), (2, .cells [.l TAlias.pc a0]), (7, .cells [.s v11.Address, .l cS v11.To]), (1005, .row 9 false 1 (List.map cS b31)), (5, .cells [.hs 1005 0]), (3, .cells [.i 0, .i 0])]) ?_ ((b20.1, b20.2)) hl (frLe_cons rfl (frLe_cons rfl (frLe_cons rfl (frLe_cons rfl frLe_nil)))) (stoLe_cons rfl (stoLe_cons rfl (stoLe_cons rfl (stoLe_cons rfl (stoLe_cons rfl (stoLe_cons rfl (stoLe_cons rfl (stoLe_cons rfl (stoLe_cons rfl (stoLe_cons rfl (stoLe_cons rfl (stoLe_cons rfl (stoLe_cons rfl (stoLe_cons rfl (stoLe_cons rfl (stoLe_cons rfl (stoLe_cons rfl (stoLe_cons rfl (stoLe_cons rfl (stoLe_cons rfl (stoLe_cons rfl stoLe_nil))))))))))))))))))))) ?_
              · intro s29 x33 hr
                unfold alias_Loops_l4 at hr
                refine awp_seq ?_
                refine awp_seq ?_
                refine awp_region ?_
                refine awpl_op rfl (opTo_q (d := 16) rfl rfl (ev_load rfl rfl ty_s_string rfl rfl)) ?_
                refine awpl_op rfl (opTo_q (d := 17) rfl rfl (ev_hlen (F := cS) rfl rfl ty_s_string.u)) ?_
                refine awpl_op rfl (opTo_q (d := 18) rfl rfl (ev_gtr rfl rfl)) ?_
                refine awpl_nil ?_
                refine kthen_normal ?_
                refine awp_cond rfl (fun c34 => ?_) (fun c34 => ?_)
                · replace hr := cond_t c34 hr
                  refine awp_skip ?_
                  refine kthen_normal ?_
                  refine awp_block ?_
                  refine awp_seq ?_
                  refine awp_region ?_
                  refine awpl_op rfl (opTo_q (d := 19) rfl rfl (ev_load rfl rfl ty_s_string rfl rfl)) ?_
                  refine awpl_pub (d := 19) (F := cS) (l := s29.1) rfl rfl ?_
                  obtain ⟨v35, h36, hr⟩ := bind_some hr
                  refine awpl_op rfl (opTo_q (d := 20) rfl rfl (ev_idx (f := cS) rfl rfl ty_s_string ty_string rfl h36)) ?_
                  refine awpl_op rfl (opTo_q (d := 21) rfl rfl (ev_load_ep rfl ty_string rfl rfl)) ?_
                  refine awpl_op rfl (opTo_q (d := 8) rfl rfl ev_assign) ?_
                  refine awpl_nil ?_
                  refine kthen_normal ?_
                  refine awp_seq ?_
                  refine awp_region ?_
                  refine awpl_op rfl (opTo_q (d := 22) rfl rfl (ev_load rfl rfl ty_s_string rfl rfl)) ?_
                  obtain ⟨v37, h38, hr⟩ := bind_some hr
                  refine awpl_op rfl (opTo_hcutL (k := 23) (F := cS) (l := s29.1) rfl rfl rfl rfl ty_s_string ty_string h38) ?_
                  refine awpl_op rfl (opTo_store rfl rfl rfl ty_s_string rfl rfl) ?_
                  refine awpl_nil ?_
                  refine kthen_normal ?_
                  refine awp_seq ?_
                  refine awp_seq ?_
                  refine awp_region ?_
                  refine awpl_op rfl (opTo_q (d := 24) rfl rfl ev_move) ?_
                  refine awpl_op rfl (opTo_q (d := 25) rfl rfl ev_move) ?_
                  refine awpl_yieldf (ps := [24]) (args := [.s v35]) 5200000 5900000 5299998 5999999 [(0, .l TAlias.pc a0), (3, .ptr 3 0), (5, .ptr 5 0), (7, .ptr 7 0), (14, .l TAlias.pc a0), (15, .i ((a0.length : Int))), (16, .i s6.1), (23, .fn (.func 61) [] [.ptr 2 0, .ptr 1003 0])] [(0, .fn (.yield b52) [] []), (4, .mp 1006), (6, .ptr 6 0), (7, .fn (.func 62) [] [.ptr 2005 0, .ptr 6 0]), (8, .s v35)] (wanted_plain rfl) rfl rfl hLs52 hLp52 hLt52 hLq52 hLa52 hLb52 hT52 rfl rfl rfl rfl (.cons rfl (.cons rfl (.cons rfl (.cons rfl (.cons rfl .nil))))) (.cons rfl (.cons rfl (.cons rfl (.cons rfl (.cons rfl (.cons rfl (.cons rfl (.cons rfl .nil)))))))) fun T59 ds59 hT59 => ?_
                  refine awp_region ?_
                  refine awpl_op rfl (opTo_q (d := 8) rfl rfl ev_assign) ?_
                  refine awpl_nil ?_
                  refine asgK frLe_refl stoLe_refl rfl ?_
                  refine awp_block ?_
                  refine awp_seq ?_
                  refine awp_region ?_
                  refine awpl_op rfl (opTo_q (d := 25) rfl rfl ev_move) ?_
                  refine awpl_op rfl (opTo_q (d := 26) rfl rfl (ev_fieldAddr rfl ty_api_Alias.u rfl ty_string rfl)) ?_
                  refine awpl_op rfl (opTo_q (d := 27) rfl rfl (ev_load rfl rfl ty_string rfl rfl)) ?_
                  refine awpl_op rfl (opTo_q (d := 28) rfl rfl (ev_seql (a := v35) (b := v11.Address) rfl rfl)) ?_
                  refine awpl_nil ?_
                  refine kthen_normal ?_
                  refine awp_cond rfl (fun c39 => ?_) (fun c39 => ?_)
                  · replace hr := cond_t c39 hr
                    refine awp_seq ?_
                    refine awp_region ?_
                    refine awpl_op rfl (opTo_q (d := 29) rfl rfl (ev_load rfl rfl ty_s_string rfl rfl)) ?_
                    refine awpl_op rfl (opTo_q (d := 30) rfl rfl ev_move) ?_
                    refine awpl_op rfl (opTo_g (d := 31) rfl rfl (opG_lit (F := cS) (l := ([v35] : List Str)) ty_s_string ty_string rfl (fun _ => rfl) rfl rfl)) ?_
                    obtain ⟨v40, h41, hr⟩ := bind_some hr
                    refine awpl_op rfl (opTo_append (k := 32) (F := cS) (l := s6.2) (xs := (([v35] : List Str))) (lim := 8796093022208) rfl rfl rfl rfl ty_s_string ty_string rfl rfl (fun _ => rfl) rfl h41) ?_
                    refine awpl_op rfl (opTo_store rfl rfl rfl ty_s_string rfl rfl) ?_
                    refine awpl_nil ?_
                    refine kthen_normal ?_
                    refine awp_exit ?_
                    refine kblock_other rfl ?_
                    refine rndK (fr'' := [(0, .fn (.yield b52) [] []), (4, .mp 1006), (6, .ptr 6 0), (7, .fn (.func 62) [] [.ptr 2005 0, .ptr 6 0]), (8, .s v35)]) (σ'' := [(2006, .row 9 false 1 (List.map cS v37)), (6, .cells [.hs 2006 0]), (2005, .cells [.mp 1011]), (1011, .mapo false (menc keyS cB s29.2)), (1006, .mapo false (menc keyS (cL cS) b14)), (5299999, .sus g0.w.heap.size ds52), (5299998, .lp b52 ((stop L52 (.exit 2)))), (5200000, .hold (.l TAlias.pc a0) (T52.getD 0 undef)), (5200003, .hold (.ptr 3 0) (T52.getD 3 undef)), (5200005, .hold (.ptr 5 0) (T52.getD 5 undef)), (5200007, .hold (.ptr 7 0) (T52.getD 7 undef)), (5200014, .hold (.l TAlias.pc a0) (T52.getD 14 undef)), (5200015, .hold (.i ((a0.length : Int))) (T52.getD 15 undef)), (5200016, .hold (.i s6.1) (T52.getD 16 undef)), (5200023, .hold (.fn (.func 61) [] [.ptr 2 0, .ptr 1003 0]) (T52.getD 23 undef)), (1003, .cells [.l cS v11.To]), (2, .cells [.l TAlias.pc a0]), (7, .cells [.s v11.Address, .l cS v11.To]), (1005, .row 9 false 1 (List.map cS v40)), (5, .cells [.hs 1005 0]), (3, .cells [.i 0, .i 0])]) (.exit 2) stoLe_refl rfl (.cons rfl (.cons rfl (.cons rfl (.cons rfl (.cons rfl .nil))))) rfl (stoLe_cons rfl (stoLe_cons rfl (stoLe_cons rfl (stoLe_cons rfl (stoLe_cons rfl (stoLe_cons rfl (stoLe_cons rfl (stoLe_cons rfl (stoLe_cons rfl (stoLe_cons rfl (stoLe_cons rfl (stoLe_cons rfl (stoLe_cons rfl (stoLe_cons rfl (stoLe_cons rfl (stoLe_cons rfl (stoLe_cons rfl (stoLe_cons rfl (stoLe_cons rfl (stoLe_cons rfl (stoLe_cons rfl stoLe_nil))))))))))))))))))))) ?_
                    refine awpl_op rfl (opTo_q (d := 27) rfl rfl (ev_not rfl)) ?_
                    refine awpl_nil ?_
                    refine kthen_normal ?_
                    refine awp_cond (t := true) rfl (fun _ => ?_) (fun h => nomatch h)
                    refine awp_ret ?_
                    refine kthen_ret ?_
                    refine kblock_ret ?_
                    cases hr
                    exact ⟨by simp, rfl, frLe_nil, (stoLe_cons rfl (stoLe_cons rfl (stoLe_cons rfl (stoLe_cons rfl (stoLe_cons rfl (stoLe_cons rfl (stoLe_cons rfl (stoLe_cons rfl (stoLe_cons rfl (stoLe_cons rfl (stoLe_cons rfl (stoLe_cons rfl (stoLe_cons rfl (stoLe_cons rfl (stoLe_cons rfl (stoLe_cons rfl stoLe_nil))))))))))))))))⟩
                  · replace hr := cond_f c39 hr
                    refine awp_skip ?_
                    refine kblock_normal ?_
                    refine rndK (fr'' := [(0, .fn (.yield b52) [] []), (4, .mp 1006), (6, .ptr 6 0), (7, .fn (.func 62) [] [.ptr 2005 0, .ptr 6 0]), (8, .s v35)]) (σ'' := [(2006, .row 9 false 1 (List.map cS v37)), (6, .cells [.hs 2006 0]), (2005, .cells [.mp 1011]), (1011, .mapo false (menc keyS cB s29.2)), (1006, .mapo false (menc keyS (cL cS) b14)), (5299999, .sus g0.w.heap.size ds52), (5299998, .lp b52 L52), (5200000, .hold (.l TAlias.pc a0) (T52.getD 0 undef)), (5200003, .hold (.ptr 3 0) (T52.getD 3 undef)), (5200005, .hold (.ptr 5 0) (T52.getD 5 undef)), (5200007, .hold (.ptr 7 0) (T52.getD 7 undef)), (5200014, .hold (.l TAlias.pc a0) (T52.getD 14 undef)), (5200015, .hold (.i ((a0.length : Int))) (T52.getD 15 undef)), (5200016, .hold (.i s6.1) (T52.getD 16 undef)), (5200023, .hold (.fn (.func 61) [] [.ptr 2 0, .ptr 1003 0]) (T52.getD 23 undef)), (1003, .cells [.l cS v11.To]), (2, .cells [.l TAlias.pc a0]), (7, .cells [.s v11.Address, .l cS v11.To]), (1005, .row 9 false 1 (List.map cS s6.2)), (5, .cells [.hs 1005 0]), (3, .cells [.i 0, .i 0])]) .off stoLe_refl rfl (.cons rfl (.cons rfl (.cons rfl (.cons rfl (.cons rfl .nil))))) rfl (stoLe_cons rfl (stoLe_cons rfl (stoLe_cons rfl (stoLe_cons rfl (stoLe_cons rfl (stoLe_cons rfl (stoLe_cons rfl (stoLe_cons rfl (stoLe_cons rfl (stoLe_cons rfl (stoLe_cons rfl (stoLe_cons rfl (stoLe_cons rfl (stoLe_cons rfl (stoLe_cons rfl (stoLe_cons rfl (stoLe_cons rfl (stoLe_cons rfl (stoLe_cons rfl (stoLe_cons rfl (stoLe_cons rfl stoLe_nil))))))))))))))))))))) ?_
                    refine awpl_op rfl (opTo_q (d := 27) rfl rfl (ev_not rfl)) ?_
                    refine awpl_nil ?_
                    refine kthen_normal ?_
                    refine awp_cond (t := false) rfl (fun h => nomatch h) (fun _ => ?_)
                    refine awp_skip ?_
                    refine kthen_normal ?_
                    refine awp_region ?_
                    refine awpl_op rfl (opTo_q (d := 28) rfl rfl ev_move) ?_
                    refine awpl_op rfl (opTo_q (d := 29) rfl rfl ev_move) ?_
                    refine awpl_op rfl (opTo_q (d := 30) rfl rfl ev_move) ?_
                    refine awpl_op rfl (opTo_q (d := 31) rfl rfl (ev_lookup (KK := keyS) (F := (cL cS)) (es := b14) (k := v35) (z := (([] : List Str))) rfl rfl rfl ty_map_string_s_string.u ty_string.u ty_s_string rfl)) ?_
                    refine awpl_inl (fn := Try.f62) (args := [.l cS (((mget b14 v35).getD (([] : List Str)))), .ptr 2005 0, .ptr 6 0]) 6000000 6099999 [(0, .fn (.yield b52) [] []), (4, .mp 1006), (6, .ptr 6 0), (7, .fn (.func 62) [] [.ptr 2005 0, .ptr 6 0])] (wanted_plain rfl) rfl ⟨Try.func62, rfl, by kernel_rfl⟩ rfl rfl (.cons rfl (.cons rfl (.cons rfl (.cons rfl .nil)))) fun T60 ds60 hT60 => ?_
                    refine awp_seq ?_
                    refine awp_region ?_
                    refine awpl_op rfl (opTo_q (d := 6) rfl rfl ev_move) ?_
                    refine awpl_op rfl (opTo_q (d := 7) rfl rfl (ev_llen (f := cS) rfl ty_s_string.u)) ?_
                    refine awpl_op rfl (opTo_q (d := 8) rfl rfl ev_move) ?_
                    refine awpl_nil ?_
                    refine kthen_normal ?_
                    refine awp_block ?_
                    obtain ⟨b43, hl, hr⟩ := bind_some hr
                    refine awp_loop (alias_Loops_l5 b14 v35) (fun s42 => [(1, .ptr 2005 0), (2, .ptr 6 0), (6, .l cS (((mget b14 v35).getD (([] : List Str))))), (7, .i (((((mget b14 v35).getD (([] : List Str)))).length : Int))), (8, .i s42.1)]) (fun s42 => [(6099999, .sus g0.w.heap.size ds60), (6000000, .hold (.fn (.yield b52) [] []) (T60.getD 0 undef)), (6000004, .hold (.mp 1006) (T60.getD 4 undef)), (6000006, .hold (.ptr 6 0) (T60.getD 6 undef)), (6000007, .hold (.fn (.func 62) [] [.ptr 2005 0, .ptr 6 0]) (T60.getD 7 undef)), (2006, .row 9 false 1 (List.map cS s42.2.1)), (6, .cells [.hs 2006 0]), (2005, .cells [.mp 1011]), (1011, .mapo false (menc keyS cB s42.2.2)), (1006, .mapo false (menc keyS (cL cS) b14)), (5299999, .sus g0.w.heap.size ds52), (5299998, .lp b52 L52), (5200000, .hold (.l TAlias.pc a0) (T52.getD 0 undef)), (5200003, .hold (.ptr 3 0) (T52.getD 3 undef)), (5200005, .hold (.ptr 5 0) (T52.getD 5 undef)), (5200007, .hold (.ptr 7 0) (T52.getD 7 undef)), (5200014, .hold (.l TAlias.pc a0) (T52.getD 14 undef)), (5200015, .hold (.i ((a0.length : Int))) (T52.getD 15 undef)), (5200016, .hold (.i s6.1) (T52.getD 16 undef)), (5200023, .hold (.fn (.func 61) [] [.ptr 2 0, .ptr 1003 0]) (T52.getD 23 undef)), (1003, .cells [.l cS v11.To]), (2, .cells [.l TAlias.pc a0]), (7, .cells [.s v11.Address, .l cS v11.To]), (1005, .row 9 false 1 (List.map cS s6.2)), (5, .cells [.hs 1005 0]), (3, .cells [.i 0, .i 0])]) (fun b43 => At (.exit 0) [] [(6099999, .sus g0.w.heap.size ds60), (6000000, .hold (.fn (.yield b52) [] []) (T60.getD 0 undef)), (6000004, .hold (.mp 1006) (T60.getD 4 undef)), (6000006, .hold (.ptr 6 0) (T60.getD 6 undef)), (6000007, .hold (.fn (.func 62) [] [.ptr 2005 0, .ptr 6 0]) (T60.getD 7 undef)), (2006, .row 9 false 1 (List.map cS b43.1)), (6, .cells [.hs 2006 0]), (2005, .cells [.mp 1011]), (1011, .mapo false (menc keyS cB b43.2)), (1006, .mapo false (menc keyS (cL cS) b14)), (5299999, .sus g0.w.heap.size ds52), (5299998, .lp b52 L52), (5200000, .hold (.l TAlias.pc a0) (T52.getD 0 undef)), (5200003, .hold (.ptr 3 0) (T52.getD 3 undef)), (5200005, .hold (.ptr 5 0) (T52.getD 5 undef)), (5200007, .hold (.ptr 7 0) (T52.getD 7 undef)), (5200014, .hold (.l TAlias.pc a0) (T52.getD 14 undef)), (5200015, .hold (.i ((a0.length : Int))) (T52.getD 15 undef)), (5200016, .hold (.i s6.1) (T52.getD 16 undef)), (5200023, .hold (.fn (.func 61) [] [.ptr 2 0, .ptr 1003 0]) (T52.getD 23 undef)), (1003, .cells [.l cS v11.To]), (2, .cells [.l TAlias.pc a0]), (7, .cells [.s v11.Address, .l cS v11.To]), (1005, .row 9 false 1 (List.map cS s6.2)), (5, .cells [.hs 1005 0]), (3, .cells [.i 0, .i 0])]) ?_ ((0, v37, s29.2)) hl (frLe_cons rfl (frLe_cons rfl (frLe_cons rfl (frLe_cons rfl (frLe_cons rfl frLe_nil))))) (stoLe_cons rfl (stoLe_cons rfl (stoLe_cons rfl (stoLe_cons rfl (stoLe_cons rfl (stoLe_cons rfl (stoLe_cons rfl (stoLe_cons rfl (stoLe_cons rfl (stoLe_cons rfl (stoLe_cons rfl (stoLe_cons rfl (stoLe_cons rfl (stoLe_cons rfl (stoLe_cons rfl (stoLe_cons rfl (stoLe_cons rfl (stoLe_cons rfl (stoLe_cons rfl (stoLe_cons rfl (stoLe_cons rfl (stoLe_cons rfl (stoLe_cons rfl (stoLe_cons rfl (stoLe_cons rfl (stoLe_cons rfl stoLe_nil)))))))))))))))))))))))))) ?_
                    · intro s42 x44 hr
                      unfold alias_Loops_l5 at hr
                      refine awp_seq ?_
                      refine awp_region ?_
                      refine awpl_op rfl (opTo_q (d := 9) rfl rfl (ev_lss rfl rfl)) ?_
                      refine awpl_nil ?_
                      refine kthen_normal ?_
                      refine awp_seq ?_
                      refine awp_cond rfl (fun c45 => ?_) (fun c45 => ?_)
                      · replace hr := cond_t c45 hr
                        refine awp_skip ?_
                        refine kthen_normal ?_
                        obtain ⟨j46, hx, hy⟩ := bind_some hr
                        refine awp_join (fun j46 => [(1, .ptr 2005 0), (2, .ptr 6 0), (6, .l cS (((mget b14 v35).getD (([] : List Str))))), (7, .i (((((mget b14 v35).getD (([] : List Str)))).length : Int))), (8, .i s42.1)]) (fun j46 => [(6099999, .sus g0.w.heap.size ds60), (6000000, .hold (.fn (.yield b52) [] []) (T60.getD 0 undef)), (6000004, .hold (.mp 1006) (T60.getD 4 undef)), (6000006, .hold (.ptr 6 0) (T60.getD 6 undef)), (6000007, .hold (.fn (.func 62) [] [.ptr 2005 0, .ptr 6 0]) (T60.getD 7 undef)), (2006, .row 9 false 1 (List.map cS j46.1)), (6, .cells [.hs 2006 0]), (2005, .cells [.mp 1011]), (1011, .mapo false (menc keyS cB j46.2)), (1006, .mapo false (menc keyS (cL cS) b14)), (5299999, .sus g0.w.heap.size ds52), (5299998, .lp b52 L52), (5200000, .hold (.l TAlias.pc a0) (T52.getD 0 undef)), (5200003, .hold (.ptr 3 0) (T52.getD 3 undef)), (5200005, .hold (.ptr 5 0) (T52.getD 5 undef)), (5200007, .hold (.ptr 7 0) (T52.getD 7 undef)), (5200014, .hold (.l TAlias.pc a0) (T52.getD 14 undef)), (5200015, .hold (.i ((a0.length : Int))) (T52.getD 15 undef)), (5200016, .hold (.i s6.1) (T52.getD 16 undef)), (5200023, .hold (.fn (.func 61) [] [.ptr 2 0, .ptr 1003 0]) (T52.getD 23 undef)), (1003, .cells [.l cS v11.To]), (2, .cells [.l TAlias.pc a0]), (7, .cells [.s v11.Address, .l cS v11.To]), (1005, .row 9 false 1 (List.map cS s6.2)), (5, .cells [.hs 1005 0]), (3, .cells [.i 0, .i 0])]) (fun z => j46 = z) ?_ ?_
                        · have hr := hx
                          clear hx hy
                          refine awp_block ?_
                          refine awp_seq ?_
                          refine awp_region ?_
                          obtain ⟨v47, h48, hr⟩ := bind_some hr
                          refine awpl_op rfl (opTo_q (d := 10) rfl rfl (ev_idx (f := cS) rfl rfl ty_s_string ty_string rfl h48)) ?_
                          refine awpl_op rfl (opTo_q (d := 11) rfl rfl (ev_load_ep rfl ty_string rfl rfl)) ?_
                          refine awpl_op rfl (opTo_q (d := 5) rfl rfl ev_assign) ?_
                          refine awpl_nil ?_
                          refine kthen_normal ?_
                          refine awp_seq ?_
                          refine awp_region ?_
                          refine awpl_op rfl (opTo_q (d := 12) rfl rfl (ev_load rfl rfl ty_map_string_bool rfl rfl)) ?_
                          refine awpl_op rfl (opTo_q (d := 13) rfl rfl ev_move) ?_
                          refine awpl_op rfl (opTo_q (d := 14) rfl rfl (ev_lookup (KK := keyS) (F := cB) (es := s42.2.2) (k := v47) (z := false) rfl rfl rfl ty_map_string_bool.u ty_string.u ty_bool rfl)) ?_
                          refine awpl_op rfl (opTo_q (d := 15) rfl rfl (ev_not rfl)) ?_
                          refine awpl_nil ?_
                          refine kthen_normal ?_
                          refine awp_cond rfl (fun c49 => ?_) (fun c49 => ?_)
                          · replace hr := cond_t c49 hr
                            refine awp_seq ?_
                            refine awp_region ?_
                            refine awpl_op rfl (opTo_q (d := 16) rfl rfl (ev_load rfl rfl ty_map_string_bool rfl rfl)) ?_
                            refine awpl_op rfl (opTo_q (d := 17) rfl rfl ev_move) ?_
                            refine awpl_op rfl (opTo_mapUpdate (KK := keyS) (F := cB) (es := s42.2.2) (k := v47) (v := true) rfl rfl rfl rfl rfl ty_map_string_bool.u ty_string.u) ?_
                            refine awpl_nil ?_
                            refine kthen_normal ?_
                            refine awp_region ?_
                            refine awpl_op rfl (opTo_q (d := 18) rfl rfl (ev_load rfl rfl ty_s_string rfl rfl)) ?_
                            refine awpl_op rfl (opTo_q (d := 19) rfl rfl ev_move) ?_
                            refine awpl_op rfl (opTo_g (d := 20) rfl rfl (opG_lit (F := cS) (l := ([v47] : List Str)) ty_s_string ty_string rfl (fun _ => rfl) rfl rfl)) ?_
                            obtain ⟨v50, h51, hr⟩ := bind_some hr
                            refine awpl_op rfl (opTo_append (k := 21) (F := cS) (l := s42.2.1) (xs := (([v47] : List Str))) (lim := 8796093022208) rfl rfl rfl rfl ty_s_string ty_string rfl rfl (fun _ => rfl) rfl h51) ?_
                            refine awpl_op rfl (opTo_store rfl rfl rfl ty_s_string rfl rfl) ?_
                            refine awpl_nil ?_
                            refine kblock_normal ?_
                            cases hr
                            exact joinK_normal _ rfl (frLe_cons rfl (frLe_cons rfl (frLe_cons rfl (frLe_cons rfl (frLe_cons rfl frLe_nil))))) (stoLe_cons rfl (stoLe_cons rfl (stoLe_cons rfl (stoLe_cons rfl (stoLe_cons rfl (stoLe_cons rfl (stoLe_cons rfl (stoLe_cons rfl (stoLe_cons rfl (stoLe_cons rfl (stoLe_cons rfl (stoLe_cons rfl (stoLe_cons rfl (stoLe_cons rfl (stoLe_cons rfl (stoLe_cons rfl (stoLe_cons rfl (stoLe_cons rfl (stoLe_cons rfl (stoLe_cons rfl (stoLe_cons rfl (stoLe_cons rfl (stoLe_cons rfl (stoLe_cons rfl (stoLe_cons rfl (stoLe_cons rfl stoLe_nil))))))))))))))))))))))))))
                          · replace hr := cond_f c49 hr
                            refine awp_skip ?_
                            refine kblock_normal ?_
                            cases hr
                            exact joinK_normal _ rfl (frLe_cons rfl (frLe_cons rfl (frLe_cons rfl (frLe_cons rfl (frLe_cons rfl frLe_nil))))) (stoLe_cons rfl (stoLe_cons rfl (stoLe_cons rfl (stoLe_cons rfl (stoLe_cons rfl (stoLe_cons rfl (stoLe_cons rfl (stoLe_cons rfl (stoLe_cons rfl (stoLe_cons rfl (stoLe_cons rfl (stoLe_cons rfl (stoLe_cons rfl (stoLe_cons rfl (stoLe_cons rfl (stoLe_cons rfl (stoLe_cons rfl (stoLe_cons rfl (stoLe_cons rfl (stoLe_cons rfl (stoLe_cons rfl (stoLe_cons rfl (stoLe_cons rfl (stoLe_cons rfl (stoLe_cons rfl (stoLe_cons rfl stoLe_nil))))))))))))))))))))))))))
                        · rintro _ rfl
                          have hr := hy
                          clear hx hy
                          refine awp_region ?_
                          refine awpl_op rfl (opTo_q (d := 22) rfl rfl (ev_add rfl rfl)) ?_
                          refine awpl_op rfl (opTo_q (d := 8) rfl rfl ev_move) ?_
                          refine awpl_nil ?_
                          cases hr
                          exact ⟨rfl, (frLe_cons rfl (frLe_cons rfl (frLe_cons rfl (frLe_cons rfl (frLe_cons rfl frLe_nil))))), (stoLe_cons rfl (stoLe_cons rfl (stoLe_cons rfl (stoLe_cons rfl (stoLe_cons rfl (stoLe_cons rfl (stoLe_cons rfl (stoLe_cons rfl (stoLe_cons rfl (stoLe_cons rfl (stoLe_cons rfl (stoLe_cons rfl (stoLe_cons rfl (stoLe_cons rfl (stoLe_cons rfl (stoLe_cons rfl (stoLe_cons rfl (stoLe_cons rfl (stoLe_cons rfl (stoLe_cons rfl (stoLe_cons rfl (stoLe_cons rfl (stoLe_cons rfl (stoLe_cons rfl (stoLe_cons rfl (stoLe_cons rfl stoLe_nil))))))))))))))))))))))))))⟩
                      · replace hr := cond_f c45 hr
                        refine awp_exit ?_
                        refine kthen_exit ?_
                        cases hr
                        exact ⟨by simp, rfl, frLe_nil, (stoLe_cons rfl (stoLe_cons rfl (stoLe_cons rfl (stoLe_cons rfl (stoLe_cons rfl (stoLe_cons rfl (stoLe_cons rfl (stoLe_cons rfl (stoLe_cons rfl (stoLe_cons rfl (stoLe_cons rfl (stoLe_cons rfl (stoLe_cons rfl (stoLe_cons rfl (stoLe_cons rfl (stoLe_cons rfl (stoLe_cons rfl (stoLe_cons rfl (stoLe_cons rfl (stoLe_cons rfl (stoLe_cons rfl (stoLe_cons rfl (stoLe_cons rfl (stoLe_cons rfl (stoLe_cons rfl (stoLe_cons rfl stoLe_nil))))))))))))))))))))))))))⟩
                    · intro e fr2 st2 hq
                      obtain ⟨rfl, hf, hs⟩ := hq
                      refine kblock_exit ?_
                      refine inlK (cs := []) (fr'' := [(0, .fn (.yield b52) [] []), (4, .mp 1006), (6, .ptr 6 0), (7, .fn (.func 62) [] [.ptr 2005 0, .ptr 6 0])]) (σ'' := [(2006, .row 9 false 1 (List.map cS b43.1)), (6, .cells [.hs 2006 0]), (2005, .cells [.mp 1011]), (1011, .mapo false (menc keyS cB b43.2)), (1006, .mapo false (menc keyS (cL cS) b14)), (5299999, .sus g0.w.heap.size ds52), (5299998, .lp b52 L52), (5200000, .hold (.l TAlias.pc a0) (T52.getD 0 undef)), (5200003, .hold (.ptr 3 0) (T52.getD 3 undef)), (5200005, .hold (.ptr 5 0) (T52.getD 5 undef)), (5200007, .hold (.ptr 7 0) (T52.getD 7 undef)), (5200014, .hold (.l TAlias.pc a0) (T52.getD 14 undef)), (5200015, .hold (.i ((a0.length : Int))) (T52.getD 15 undef)), (5200016, .hold (.i s6.1) (T52.getD 16 undef)), (5200023, .hold (.fn (.func 61) [] [.ptr 2 0, .ptr 1003 0]) (T52.getD 23 undef)), (1003, .cells [.l cS v11.To]), (2, .cells [.l TAlias.pc a0]), (7, .cells [.s v11.Address, .l cS v11.To]), (1005, .row 9 false 1 (List.map cS s6.2)), (5, .cells [.hs 1005 0]), (3, .cells [.i 0, .i 0])]) (.inr rfl) hf hs .nil (.cons rfl (.cons rfl (.cons rfl (.cons rfl .nil)))) rfl (stoLe_cons rfl (stoLe_cons rfl (stoLe_cons rfl (stoLe_cons rfl (stoLe_cons rfl (stoLe_cons rfl (stoLe_cons rfl (stoLe_cons rfl (stoLe_cons rfl (stoLe_cons rfl (stoLe_cons rfl (stoLe_cons rfl (stoLe_cons rfl (stoLe_cons rfl (stoLe_cons rfl (stoLe_cons rfl (stoLe_cons rfl (stoLe_cons rfl (stoLe_cons rfl (stoLe_cons rfl (stoLe_cons rfl stoLe_nil))))))))))))))))))))) ?_
                      refine awpl_nil ?_
                      refine kblock_normal ?_
                      cases hr
                      exact ⟨rfl, (frLe_cons rfl (frLe_cons rfl (frLe_cons rfl (frLe_cons rfl frLe_nil)))), (stoLe_cons rfl (stoLe_cons rfl (stoLe_cons rfl (stoLe_cons rfl (stoLe_cons rfl (stoLe_cons rfl (stoLe_cons rfl (stoLe_cons rfl (stoLe_cons rfl (stoLe_cons rfl (stoLe_cons rfl (stoLe_cons rfl (stoLe_cons rfl (stoLe_cons rfl (stoLe_cons rfl (stoLe_cons rfl (stoLe_cons rfl (stoLe_cons rfl (stoLe_cons rfl (stoLe_cons rfl (stoLe_cons rfl stoLe_nil)))))))))))))))))))))⟩
                · replace hr := cond_f c34 hr
                  refine awp_exit ?_
                  refine kthen_exit ?_
                  cases hr
                  exact ⟨by simp, rfl, frLe_nil, (stoLe_cons rfl (stoLe_cons rfl (stoLe_cons rfl (stoLe_cons rfl (stoLe_cons rfl (stoLe_cons rfl (stoLe_cons rfl (stoLe_cons rfl (stoLe_cons rfl (stoLe_cons rfl (stoLe_cons rfl (stoLe_cons rfl (stoLe_cons rfl (stoLe_cons rfl (stoLe_cons rfl (stoLe_cons rfl stoLe_nil))))))))))))))))⟩
              · intro e fr2 st2 hq
                rcases o32 with b30 | b31
                · obtain ⟨rfl, hf, hs⟩ := hq
                  replace hr := elim_l hr
                  refine kblock_exit ?_
                  refine itrK (L' := L52) (fr'' := [(0, .l TAlias.pc a0), (3, .ptr 3 0), (5, .ptr 5 0), (7, .ptr 7 0), (14, .l TAlias.pc a0), (15, .i ((a0.length : Int))), (16, .i s6.1), (23, .fn (.func 61) [] [.ptr 2 0, .ptr 1003 0])]) (σ'' := [(1003, .cells [.l cS v11.To]), (2, .cells [.l TAlias.pc a0]), (7, .cells [.s v11.Address, .l cS v11.To]), (1005, .row 9 false 1 (List.map cS s6.2)), (5, .cells [.hs 1005 0]), (3, .cells [.i 0, .i 0])]) (.inr rfl) hs rfl (.cons rfl (.cons rfl (.cons rfl (.cons rfl (.cons rfl (.cons rfl (.cons rfl (.cons rfl .nil)))))))) rfl (stoLe_cons rfl (stoLe_cons rfl (stoLe_cons rfl (stoLe_cons rfl (stoLe_cons rfl (stoLe_cons rfl stoLe_nil)))))) rfl ?_
                  refine .off ?_
                  refine kblock_normal ?_
                  refine kblock_normal ?_
                  cases hr
                  exact joinK_normal _ rfl (frLe_cons rfl (frLe_cons rfl (frLe_cons rfl (frLe_cons rfl (frLe_cons rfl (frLe_cons rfl frLe_nil)))))) (stoLe_cons rfl (stoLe_cons rfl (stoLe_cons rfl stoLe_nil)))
                · obtain ⟨rfl, hf, hs⟩ := hq
                  replace hr := elim_r hr
                  refine kblock_ret ?_
                  refine itrK (L' := (stop L52 (.exit 2))) (fr'' := [(0, .l TAlias.pc a0), (3, .ptr 3 0), (5, .ptr 5 0), (7, .ptr 7 0), (14, .l TAlias.pc a0), (15, .i ((a0.length : Int))), (16, .i s6.1), (23, .fn (.func 61) [] [.ptr 2 0, .ptr 1003 0])]) (σ'' := [(1003, .cells [.l cS v11.To]), (2, .cells [.l TAlias.pc a0]), (7, .cells [.s v11.Address, .l cS v11.To]), (1005, .row 9 false 1 (List.map cS b31)), (5, .cells [.hs 1005 0]), (3, .cells [.i 0, .i 0])]) (.inl rfl) hs rfl (.cons rfl (.cons rfl (.cons rfl (.cons rfl (.cons rfl (.cons rfl (.cons rfl (.cons rfl .nil)))))))) rfl (stoLe_cons rfl (stoLe_cons rfl (stoLe_cons rfl (stoLe_cons rfl (stoLe_cons rfl (stoLe_cons rfl stoLe_nil)))))) rfl ?_
                  refine .jump ?_
                  refine awp_exit ?_
                  refine kblock_exit ?_
                  refine kblock_normal ?_
                  cases hr
                  exact joinK_normal _ rfl (frLe_cons rfl (frLe_cons rfl (frLe_cons rfl (frLe_cons rfl (frLe_cons rfl (frLe_cons rfl frLe_nil)))))) (stoLe_cons rfl (stoLe_cons rfl (stoLe_cons rfl stoLe_nil)))
        · rintro _ rfl
          have hr := hy
          clear hx hy
          refine awp_region ?_
          refine awpl_op rfl (opTo_q (d := 33) rfl rfl (ev_add rfl rfl)) ?_
          refine awpl_op rfl (opTo_q (d := 16) rfl rfl ev_move) ?_
          refine awpl_nil ?_
          cases hr
          exact ⟨rfl, (frLe_cons rfl (frLe_cons rfl (frLe_cons rfl (frLe_cons rfl (frLe_cons rfl (frLe_cons rfl frLe_nil)))))), (stoLe_cons rfl (stoLe_cons rfl (stoLe_cons rfl stoLe_nil)))⟩
      · replace hr := cond_f c9 hr
        refine awp_exit ?_
        refine kthen_exit ?_
        cases hr
        exact ⟨by simp, rfl, (frLe_cons rfl (frLe_cons rfl frLe_nil)), (stoLe_cons rfl (stoLe_cons rfl (stoLe_cons rfl stoLe_nil)))⟩
    · intro e fr2 st2 hq
      obtain ⟨rfl, hf, hs⟩ := hq
      refine kblock_exit ?_
      refine kthen_normal ?_
      refine awp_le hf hs ?_
      refine awp_seq ?_
      obtain ⟨v52, h53, hr⟩ := bind_some hr
      refine awp_drawn 2 [(35, .agg [.i v52.Code, .i v52.Index]), (34, .hs 1005 0)] mixed (by kernel_rfl) rfl rfl (.run (.plain rfl) (opG_q (ev_load rfl rfl ty_s_string rfl rfl)) (.run (.plain rfl) (opG_call (basic_None_run  v52 h53) rfl) .nil)) rfl ?_
      refine awpl_op rfl (opTo_q (d := 2) rfl rfl ev_assign) ?_
      refine awpl_op rfl (opTo_store rfl rfl rfl ty_api_Fault rfl rfl) ?_
      refine awpl_nil ?_
      refine kthen_normal ?_
      refine awp_pub (d := 2) (F := cS) (l := b7) rfl rfl ?_
      refine awp_ret ?_
      cases hr
      exact kret' rfl (.cons (res_tmp rfl) (.cons (res_cellN rfl rfl ty_api_Fault rfl rfl) .nil)) rfl
end Go.Proofs.Ytlpmbmilnoncdaa

/- A function of the program computes what its Lean function does. Written by program. -/
namespace Go.Proofs.Ytlpmbmilnoncdaa
open Go.RowKit
set_option maxRecDepth 100000
set_option maxHeartbeats 40000000
set_option linter.unusedVariables false
theorem L_expands_run  (r : Bool) (hr : L_expands = some r) : Run Try.prog 30 [] (.bo r) := by
  unfold L_expands at hr
  refine run_of_awp (fn := Try.f30) ⟨Try.func30, rfl, by kernel_rfl⟩ rfl (fun _ => rfl) fun g0 hg => ?_
  refine awp_seq ?_
  refine awp_region ?_
  refine awpl_op rfl (opTo_q (d := 0) rfl rfl ev_assign) ?_
  refine awpl_nil ?_
  refine kthen_normal ?_
  refine awp_seq ?_
  refine awp_region ?_
  refine awpl_op rfl (opTo_g (d := 8) rfl rfl (opG_lit (F := cS) (l := ([([98, 64, 120] : Str), ([99, 64, 120] : Str)] : List Str)) ty_s_string ty_string rfl (fun _ => rfl) rfl rfl)) ?_
  refine awpl_op rfl (opTo_q (d := 9) rfl rfl (ev_build ty_api_Alias pl_api_Alias (.inr ⟨rfl, rfl⟩) rfl)) ?_
  refine awpl_op rfl (opTo_g (d := 10) rfl rfl (opG_lit (F := cS) (l := ([([97, 64, 120] : Str), ([100, 64, 120] : Str)] : List Str)) ty_s_string ty_string rfl (fun _ => rfl) rfl rfl)) ?_
  refine awpl_op rfl (opTo_q (d := 11) rfl rfl (ev_build ty_api_Alias pl_api_Alias (.inr ⟨rfl, rfl⟩) rfl)) ?_
  refine awpl_op rfl (opTo_g (d := 12) rfl rfl (opG_lit (F := TAlias.pc) (l := ([(TAlias.mk (([97, 64, 120] : Str)) (([([98, 64, 120] : Str), ([99, 64, 120] : Str)] : List Str))), (TAlias.mk (([98, 64, 120] : Str)) (([([97, 64, 120] : Str), ([100, 64, 120] : Str)] : List Str)))] : List TAlias)) ty_s_api_Alias ty_api_Alias rfl (fun _ => rfl) rfl rfl)) ?_
  refine awpl_op rfl (opTo_q (d := 1) rfl rfl ev_assign) ?_
  refine awpl_nil ?_
  refine kthen_normal ?_
  refine awp_seq ?_
  refine awp_region ?_
  refine awpl_op rfl (opTo_q (d := 14) rfl rfl ev_move) ?_
  obtain ⟨v1, h2, hr⟩ := bind_some hr
  refine awpl_op rfl (opTo_call (k := 15) (alias_Expand_run (([(TAlias.mk (([97, 64, 120] : Str)) (([([98, 64, 120] : Str), ([99, 64, 120] : Str)] : List Str))), (TAlias.mk (([98, 64, 120] : Str)) (([([97, 64, 120] : Str), ([100, 64, 120] : Str)] : List Str)))] : List TAlias)) (([97, 64, 120] : Str)) v1 h2) rfl rfl) ?_
  refine awpl_op rfl (opTo_q (d := 13) rfl rfl ev_move) ?_
  refine awpl_op rfl (opTo_q (d := 16) rfl rfl (ev_extract rfl rfl)) ?_
  refine awpl_op rfl (opTo_q (d := 17) rfl rfl (ev_extract rfl rfl)) ?_
  refine awpl_op rfl (opTo_alloc (k := 3) 3 rfl ty_api_Fault (.inr ⟨rfl, rfl⟩) rfl rfl rfl) ?_
  refine awpl_op rfl (opTo_q (d := 2) rfl rfl ev_assign) ?_
  refine awpl_op rfl (opTo_store rfl rfl rfl ty_api_Fault rfl rfl) ?_
  refine awpl_nil ?_
  refine kthen_normal ?_
  refine awp_seq ?_
  refine awp_region ?_
  refine awpl_op rfl (opTo_q (d := 19) rfl rfl ev_move) ?_
  obtain ⟨v3, h4, hr⟩ := bind_some hr
  refine awpl_op rfl (opTo_call (k := 20) (alias_Loops_run (([(TAlias.mk (([97, 64, 120] : Str)) (([([98, 64, 120] : Str), ([99, 64, 120] : Str)] : List Str))), (TAlias.mk (([98, 64, 120] : Str)) (([([97, 64, 120] : Str), ([100, 64, 120] : Str)] : List Str)))] : List TAlias)) v3 h4) rfl rfl) ?_
  refine awpl_op rfl (opTo_q (d := 18) rfl rfl ev_move) ?_
  refine awpl_op rfl (opTo_q (d := 21) rfl rfl (ev_extract rfl rfl)) ?_
  refine awpl_op rfl (opTo_q (d := 22) rfl rfl (ev_extract rfl rfl)) ?_
  refine awpl_op rfl (opTo_alloc (k := 5) 5 rfl ty_api_Fault (.inr ⟨rfl, rfl⟩) rfl rfl rfl) ?_
  refine awpl_op rfl (opTo_q (d := 4) rfl rfl ev_assign) ?_
  refine awpl_op rfl (opTo_store rfl rfl rfl ty_api_Fault rfl rfl) ?_
  refine awpl_nil ?_
  refine kthen_normal ?_
  refine awp_seq ?_
  refine awp_region ?_
  refine awpl_op rfl (opTo_q (d := 24) rfl rfl ev_move) ?_
  obtain ⟨v5, h6, hr⟩ := bind_some hr
  refine awpl_op rfl (opTo_call (k := 25) (alias_Expand_run (([(TAlias.mk (([97, 64, 120] : Str)) (([([98, 64, 120] : Str), ([99, 64, 120] : Str)] : List Str))), (TAlias.mk (([98, 64, 120] : Str)) (([([97, 64, 120] : Str), ([100, 64, 120] : Str)] : List Str)))] : List TAlias)) (([97] : Str)) v5 h6) rfl rfl) ?_
  refine awpl_op rfl (opTo_q (d := 23) rfl rfl ev_move) ?_
  refine awpl_op rfl (opTo_q (d := 26) rfl rfl (ev_extract rfl rfl)) ?_
  refine awpl_op rfl (opTo_q (d := 27) rfl rfl (ev_extract rfl rfl)) ?_
  refine awpl_op rfl (opTo_alloc (k := 7) 7 rfl ty_api_Fault (.inr ⟨rfl, rfl⟩) rfl rfl rfl) ?_
  refine awpl_op rfl (opTo_q (d := 6) rfl rfl ev_assign) ?_
  refine awpl_op rfl (opTo_store rfl rfl rfl ty_api_Fault rfl rfl) ?_
  refine awpl_nil ?_
  refine kthen_normal ?_
  obtain ⟨j7, hx, hy⟩ := bind_some hr
  refine awp_join (fun j7 => [(0, .bo j7)]) (fun j7 => []) (fun z => j7 = z) ?_ ?_
  · have hr := hx
    clear hx hy
    refine bool_split ((v1.2.Code == 0)) (fun c8 => ?_) (fun c8 => ?_)
    · replace hr := cond_t c8 hr
      refine bool_split ((v3.2.Code == 0)) (fun c9 => ?_) (fun c9 => ?_)
      · replace hr := cond_t c9 hr
        obtain ⟨v10, h11, hr⟩ := bind_some hr
        refine bool_split ((allEq [(v5.2.Code == v10.Code), (v5.2.Index == v10.Index)])) (fun c12 => ?_) (fun c12 => ?_)
        · replace hr := cond_t c12 hr
          obtain ⟨v13, h14, hr⟩ := bind_some hr
          refine bool_split v13 (fun c15 => ?_) (fun c15 => ?_)
          · replace hr := cond_t c15 hr
            refine awp_drawn 21 [(48, .l cS (([([97, 64, 120] : Str), ([98, 64, 120] : Str)] : List Str))), (47, .l cS v3.1), (46, .bo v13), (45, .bo v13), (44, .bo v13), (43, .l cS (([([99, 64, 120] : Str), ([100, 64, 120] : Str)] : List Str))), (42, .l cS v1.1), (41, .bo ((allEq [(v5.2.Code == v10.Code), (v5.2.Index == v10.Index)]))), (40, .bo ((allEq [(v5.2.Code == v10.Code), (v5.2.Index == v10.Index)]))), (39, .bo ((allEq [(v5.2.Code == v10.Code), (v5.2.Index == v10.Index)]))), (38, .agg [.i v10.Code, .i v10.Index]), (37, .agg [.i v5.2.Code, .i v5.2.Index]), (36, .bo ((v3.2.Code == 0))), (35, .bo ((v3.2.Code == 0))), (34, .bo ((v3.2.Code == 0))), (33, .i v3.2.Code), (32, .ptr 5 0), (31, .bo ((v1.2.Code == 0))), (30, .bo ((v1.2.Code == 0))), (29, .i v1.2.Code), (28, .ptr 3 0)] mixed (by kernel_rfl) rfl rfl (.run (.plain rfl) (opG_q (ev_fieldAddr rfl ty_api_Fault.u rfl ty_int rfl)) (.run (.plain rfl) (opG_q (ev_load rfl rfl ty_int rfl rfl)) (.run (.plain rfl) (opG_q (ev_eql rfl rfl)) (.run (.plain rfl) (opG_q ev_move) (.run (.yes (d := 31) rfl rfl rfl c8) (opG_q (ev_fieldAddr rfl ty_api_Fault.u rfl ty_int rfl)) (.run (.yes (d := 31) rfl rfl rfl c8) (opG_q (ev_load rfl rfl ty_int rfl rfl)) (.run (.yes (d := 31) rfl rfl rfl c8) (opG_q (ev_eql rfl rfl)) (.run (.plain rfl) (opG_q (ev_pick_t rfl c8)) (.run (.plain rfl) (opG_q ev_move) (.run (.yes (d := 36) rfl rfl rfl c9) (opG_q (ev_loadN rfl rfl ty_api_Fault rfl rfl)) (.run (.yes (d := 36) rfl rfl rfl c9) (opG_call (R_At_run 10 ((-2)) v10 h11) rfl) (.run (.yes (d := 36) rfl rfl rfl c9) (opG_q (ev_structeq rfl rfl ty_api_Fault cmp_api_Fault (.int rfl (by decide) ty_int (.int rfl (by decide) ty_int .nil)))) (.run (.plain rfl) (opG_q (ev_pick_t rfl c9)) (.run (.plain rfl) (opG_q ev_move) (.run (.yes (d := 41) rfl rfl rfl c12) (opG_q ev_move) (.run (.yes (d := 41) rfl rfl rfl c12) (opG_lit (F := cS) (l := ([([99, 64, 120] : Str), ([100, 64, 120] : Str)] : List Str)) ty_s_string ty_string rfl (fun _ => rfl) rfl rfl) (.run (.yes (d := 41) rfl rfl rfl c12) (opG_call (R_Strings_run v1.1 (([([99, 64, 120] : Str), ([100, 64, 120] : Str)] : List Str)) v13 h14) rfl) (.run (.plain rfl) (opG_q (ev_pick_t rfl c12)) (.run (.plain rfl) (opG_q ev_move) (.run (.yes (d := 46) rfl rfl rfl c15) (opG_q ev_move) (.run (.yes (d := 46) rfl rfl rfl c15) (opG_lit (F := cS) (l := ([([97, 64, 120] : Str), ([98, 64, 120] : Str)] : List Str)) ty_s_string ty_string rfl (fun _ => rfl) rfl rfl) .nil))))))))))))))))))))) rfl ?_
            obtain ⟨v16, h17, hr⟩ := bind_some hr
            refine awpl_yes (d := 46) rfl rfl rfl c15 (opTo_call (k := 49) (R_Strings_run v3.1 (([([97, 64, 120] : Str), ([98, 64, 120] : Str)] : List Str)) v16 h17) rfl rfl) ?_
            refine awpl_op rfl (opTo_q (d := 50) rfl rfl (ev_pick_t rfl c15)) ?_
            refine awpl_op rfl (opTo_q (d := 0) rfl rfl ev_assign) ?_
            refine awpl_nil ?_
            cases hr
            exact joinK_normal _ rfl (frLe_cons rfl frLe_nil) stoLe_nil
          · replace hr := cond_f c15 hr
            refine awp_drawn 21 [(48, .tup []), (47, .tup []), (46, .bo v13), (45, .bo v13), (44, .bo v13), (43, .l cS (([([99, 64, 120] : Str), ([100, 64, 120] : Str)] : List Str))), (42, .l cS v1.1), (41, .bo ((allEq [(v5.2.Code == v10.Code), (v5.2.Index == v10.Index)]))), (40, .bo ((allEq [(v5.2.Code == v10.Code), (v5.2.Index == v10.Index)]))), (39, .bo ((allEq [(v5.2.Code == v10.Code), (v5.2.Index == v10.Index)]))), (38, .agg [.i v10.Code, .i v10.Index]), (37, .agg [.i v5.2.Code, .i v5.2.Index]), (36, .bo ((v3.2.Code == 0))), (35, .bo ((v3.2.Code == 0))), (34, .bo ((v3.2.Code == 0))), (33, .i v3.2.Code), (32, .ptr 5 0), (31, .bo ((v1.2.Code == 0))), (30, .bo ((v1.2.Code == 0))), (29, .i v1.2.Code), (28, .ptr 3 0)] mixed (by kernel_rfl) rfl rfl (.run (.plain rfl) (opG_q (ev_fieldAddr rfl ty_api_Fault.u rfl ty_int rfl)) (.run (.plain rfl) (opG_q (ev_load rfl rfl ty_int rfl rfl)) (.run (.plain rfl) (opG_q (ev_eql rfl rfl)) (.run (.plain rfl) (opG_q ev_move) (.run (.yes (d := 31) rfl rfl rfl c8) (opG_q (ev_fieldAddr rfl ty_api_Fault.u rfl ty_int rfl)) (.run (.yes (d := 31) rfl rfl rfl c8) (opG_q (ev_load rfl rfl ty_int rfl rfl)) (.run (.yes (d := 31) rfl rfl rfl c8) (opG_q (ev_eql rfl rfl)) (.run (.plain rfl) (opG_q (ev_pick_t rfl c8)) (.run (.plain rfl) (opG_q ev_move) (.run (.yes (d := 36) rfl rfl rfl c9) (opG_q (ev_loadN rfl rfl ty_api_Fault rfl rfl)) (.run (.yes (d := 36) rfl rfl rfl c9) (opG_call (R_At_run 10 ((-2)) v10 h11) rfl) (.run (.yes (d := 36) rfl rfl rfl c9) (opG_q (ev_structeq rfl rfl ty_api_Fault cmp_api_Fault (.int rfl (by decide) ty_int (.int rfl (by decide) ty_int .nil)))) (.run (.plain rfl) (opG_q (ev_pick_t rfl c9)) (.run (.plain rfl) (opG_q ev_move) (.run (.yes (d := 41) rfl rfl rfl c12) (opG_q ev_move) (.run (.yes (d := 41) rfl rfl rfl c12) (opG_lit (F := cS) (l := ([([99, 64, 120] : Str), ([100, 64, 120] : Str)] : List Str)) ty_s_string ty_string rfl (fun _ => rfl) rfl rfl) (.run (.yes (d := 41) rfl rfl rfl c12) (opG_call (R_Strings_run v1.1 (([([99, 64, 120] : Str), ([100, 64, 120] : Str)] : List Str)) v13 h14) rfl) (.run (.plain rfl) (opG_q (ev_pick_t rfl c12)) (.run (.plain rfl) (opG_q ev_move) (.skip (.no (d := 46) rfl rfl rfl c15) (.skip (.no (d := 46) rfl rfl rfl c15) .nil))))))))))))))))))))) rfl ?_
            refine awpl_no (d := 46) rfl rfl rfl c15 ?_
            refine awpl_op rfl (opTo_q (d := 50) rfl rfl (ev_pick_f rfl c15)) ?_
            refine awpl_op rfl (opTo_q (d := 0) rfl rfl ev_assign) ?_
            refine awpl_nil ?_
            cases hr
            exact joinK_normal _ rfl (frLe_cons rfl frLe_nil) stoLe_nil
        · replace hr := cond_f c12 hr
          refine awp_drawn 21 [(48, .tup []), (47, .tup []), (46, .bo false), (45, .bo false), (44, .tup []), (43, .tup []), (42, .tup []), (41, .bo ((allEq [(v5.2.Code == v10.Code), (v5.2.Index == v10.Index)]))), (40, .bo ((allEq [(v5.2.Code == v10.Code), (v5.2.Index == v10.Index)]))), (39, .bo ((allEq [(v5.2.Code == v10.Code), (v5.2.Index == v10.Index)]))), (38, .agg [.i v10.Code, .i v10.Index]), (37, .agg [.i v5.2.Code, .i v5.2.Index]), (36, .bo ((v3.2.Code == 0))), (35, .bo ((v3.2.Code == 0))), (34, .bo ((v3.2.Code == 0))), (33, .i v3.2.Code), (32, .ptr 5 0), (31, .bo ((v1.2.Code == 0))), (30, .bo ((v1.2.Code == 0))), (29, .i v1.2.Code), (28, .ptr 3 0)] mixed (by kernel_rfl) rfl rfl (.run (.plain rfl) (opG_q (ev_fieldAddr rfl ty_api_Fault.u rfl ty_int rfl)) (.run (.plain rfl) (opG_q (ev_load rfl rfl ty_int rfl rfl)) (.run (.plain rfl) (opG_q (ev_eql rfl rfl)) (.run (.plain rfl) (opG_q ev_move) (.run (.yes (d := 31) rfl rfl rfl c8) (opG_q (ev_fieldAddr rfl ty_api_Fault.u rfl ty_int rfl)) (.run (.yes (d := 31) rfl rfl rfl c8) (opG_q (ev_load rfl rfl ty_int rfl rfl)) (.run (.yes (d := 31) rfl rfl rfl c8) (opG_q (ev_eql rfl rfl)) (.run (.plain rfl) (opG_q (ev_pick_t rfl c8)) (.run (.plain rfl) (opG_q ev_move) (.run (.yes (d := 36) rfl rfl rfl c9) (opG_q (ev_loadN rfl rfl ty_api_Fault rfl rfl)) (.run (.yes (d := 36) rfl rfl rfl c9) (opG_call (R_At_run 10 ((-2)) v10 h11) rfl) (.run (.yes (d := 36) rfl rfl rfl c9) (opG_q (ev_structeq rfl rfl ty_api_Fault cmp_api_Fault (.int rfl (by decide) ty_int (.int rfl (by decide) ty_int .nil)))) (.run (.plain rfl) (opG_q (ev_pick_t rfl c9)) (.run (.plain rfl) (opG_q ev_move) (.skip (.no (d := 41) rfl rfl rfl c12) (.skip (.no (d := 41) rfl rfl rfl c12) (.skip (.no (d := 41) rfl rfl rfl c12) (.run (.plain rfl) (opG_q (ev_pick_f rfl c12)) (.run (.plain rfl) (opG_q ev_move) (.skip (.no (d := 46) rfl rfl rfl rfl) (.skip (.no (d := 46) rfl rfl rfl rfl) .nil))))))))))))))))))))) rfl ?_
          refine awpl_no (d := 46) rfl rfl rfl rfl ?_
          refine awpl_op rfl (opTo_q (d := 50) rfl rfl (ev_pick_f rfl rfl)) ?_
          refine awpl_op rfl (opTo_q (d := 0) rfl rfl ev_assign) ?_
          refine awpl_nil ?_
          cases hr
          exact joinK_normal _ rfl (frLe_cons rfl frLe_nil) stoLe_nil
      · replace hr := cond_f c9 hr
        refine awp_drawn 21 [(48, .tup []), (47, .tup []), (46, .bo false), (45, .bo false), (44, .tup []), (43, .tup []), (42, .tup []), (41, .bo false), (40, .bo false), (39, .tup []), (38, .tup []), (37, .tup []), (36, .bo ((v3.2.Code == 0))), (35, .bo ((v3.2.Code == 0))), (34, .bo ((v3.2.Code == 0))), (33, .i v3.2.Code), (32, .ptr 5 0), (31, .bo ((v1.2.Code == 0))), (30, .bo ((v1.2.Code == 0))), (29, .i v1.2.Code), (28, .ptr 3 0)] mixed (by kernel_rfl) rfl rfl (.run (.plain rfl) (opG_q (ev_fieldAddr rfl ty_api_Fault.u rfl ty_int rfl)) (.run (.plain rfl) (opG_q (ev_load rfl rfl ty_int rfl rfl)) (.run (.plain rfl) (opG_q (ev_eql rfl rfl)) (.run (.plain rfl) (opG_q ev_move) (.run (.yes (d := 31) rfl rfl rfl c8) (opG_q (ev_fieldAddr rfl ty_api_Fault.u rfl ty_int rfl)) (.run (.yes (d := 31) rfl rfl rfl c8) (opG_q (ev_load rfl rfl ty_int rfl rfl)) (.run (.yes (d := 31) rfl rfl rfl c8) (opG_q (ev_eql rfl rfl)) (.run (.plain rfl) (opG_q (ev_pick_t rfl c8)) (.run (.plain rfl) (opG_q ev_move) (.skip (.no (d := 36) rfl rfl rfl c9) (.skip (.no (d := 36) rfl rfl rfl c9) (.skip (.no (d := 36) rfl rfl rfl c9) (.run (.plain rfl) (opG_q (ev_pick_f rfl c9)) (.run (.plain rfl) (opG_q ev_move) (.skip (.no (d := 41) rfl rfl rfl rfl) (.skip (.no (d := 41) rfl rfl rfl rfl) (.skip (.no (d := 41) rfl rfl rfl rfl) (.run (.plain rfl) (opG_q (ev_pick_f rfl rfl)) (.run (.plain rfl) (opG_q ev_move) (.skip (.no (d := 46) rfl rfl rfl rfl) (.skip (.no (d := 46) rfl rfl rfl rfl) .nil))))))))))))))))))))) rfl ?_
        refine awpl_no (d := 46) rfl rfl rfl rfl ?_
        refine awpl_op rfl (opTo_q (d := 50) rfl rfl (ev_pick_f rfl rfl)) ?_
        refine awpl_op rfl (opTo_q (d := 0) rfl rfl ev_assign) ?_
        refine awpl_nil ?_
        cases hr
        exact joinK_normal _ rfl (frLe_cons rfl frLe_nil) stoLe_nil
    · replace hr := cond_f c8 hr
      refine awp_drawn 21 [(48, .tup []), (47, .tup []), (46, .bo false), (45, .bo false), (44, .tup []), (43, .tup []), (42, .tup []), (41, .bo false), (40, .bo false), (39, .tup []), (38, .tup []), (37, .tup []), (36, .bo false), (35, .bo false), (34, .tup []), (33, .tup []), (32, .tup []), (31, .bo ((v1.2.Code == 0))), (30, .bo ((v1.2.Code == 0))), (29, .i v1.2.Code), (28, .ptr 3 0)] mixed (by kernel_rfl) rfl rfl (.run (.plain rfl) (opG_q (ev_fieldAddr rfl ty_api_Fault.u rfl ty_int rfl)) (.run (.plain rfl) (opG_q (ev_load rfl rfl ty_int rfl rfl)) (.run (.plain rfl) (opG_q (ev_eql rfl rfl)) (.run (.plain rfl) (opG_q ev_move) (.skip (.no (d := 31) rfl rfl rfl c8) (.skip (.no (d := 31) rfl rfl rfl c8) (.skip (.no (d := 31) rfl rfl rfl c8) (.run (.plain rfl) (opG_q (ev_pick_f rfl c8)) (.run (.plain rfl) (opG_q ev_move) (.skip (.no (d := 36) rfl rfl rfl rfl) (.skip (.no (d := 36) rfl rfl rfl rfl) (.skip (.no (d := 36) rfl rfl rfl rfl) (.run (.plain rfl) (opG_q (ev_pick_f rfl rfl)) (.run (.plain rfl) (opG_q ev_move) (.skip (.no (d := 41) rfl rfl rfl rfl) (.skip (.no (d := 41) rfl rfl rfl rfl) (.skip (.no (d := 41) rfl rfl rfl rfl) (.run (.plain rfl) (opG_q (ev_pick_f rfl rfl)) (.run (.plain rfl) (opG_q ev_move) (.skip (.no (d := 46) rfl rfl rfl rfl) (.skip (.no (d := 46) rfl rfl rfl rfl) .nil))))))))))))))))))))) rfl ?_
      refine awpl_no (d := 46) rfl rfl rfl rfl ?_
      refine awpl_op rfl (opTo_q (d := 50) rfl rfl (ev_pick_f rfl rfl)) ?_
      refine awpl_op rfl (opTo_q (d := 0) rfl rfl ev_assign) ?_
      refine awpl_nil ?_
      cases hr
      exact joinK_normal _ rfl (frLe_cons rfl frLe_nil) stoLe_nil
  · rintro _ rfl
    have hr := hy
    clear hx hy
    refine awp_ret ?_
    cases hr
    exact kret' rfl (.cons (res_tmp rfl) .nil) rfl
end Go.Proofs.Ytlpmbmilnoncdaa

/- A function of the program computes what its Lean function does. Written by program. -/
namespace Go.Proofs.Ytlpmbmilnoncdaa
open Go.RowKit
set_option maxRecDepth 100000
set_option maxHeartbeats 40000000
set_option linter.unusedVariables false
theorem R_Has_run (a0 : List Str) (a1 : Str) (r : Bool) (hr : R_Has a0 a1 = some r) : Run Try.prog 34 [.l cS a0, .s a1] (.bo r) := by
  unfold R_Has at hr
  refine run_of_awp (fn := Try.f34) ⟨Try.func34, rfl, by kernel_rfl⟩ rfl (fun _ => rfl) fun g0 hg => ?_
  refine awp_seq ?_
  refine awp_region ?_
  refine awpl_op rfl (opTo_q (d := 4) rfl rfl ev_assign) ?_
  refine awpl_nil ?_
  refine kthen_normal ?_
  refine awp_seq ?_
  refine awp_seq ?_
  refine awp_region ?_
  refine awpl_op rfl (opTo_q (d := 5) rfl rfl ev_assign) ?_
  refine awpl_nil ?_
  refine kthen_normal ?_
  refine awp_block ?_
  obtain ⟨o4, hl, hr⟩ := bind_some hr
  refine awp_loop (R_Has_l1 a0 a1) (fun s1 => [(0, .l cS a0), (1, .s a1), (5, .i s1)]) (fun s1 => []) (fun o => match o with | .inl b2 => At (.exit 0) [] [] | .inr b3 => At .ret [(4, .bo b3)] []) ?_ 0 hl (frLe_cons rfl (frLe_cons rfl (frLe_cons rfl frLe_nil))) stoLe_nil ?_
  · intro s1 x5 hr
    unfold R_Has_l1 at hr
    refine awp_seq ?_
    refine awp_seq ?_
    refine awp_region ?_
    refine awpl_op rfl (opTo_q (d := 6) rfl rfl ev_move) ?_
    refine awpl_op rfl (opTo_q (d := 7) rfl rfl ev_move) ?_
    refine awpl_op rfl (opTo_q (d := 8) rfl rfl (ev_llen (f := cS) rfl ty_s_string.u)) ?_
    refine awpl_op rfl (opTo_q (d := 9) rfl rfl (ev_lss rfl rfl)) ?_
    refine awpl_nil ?_
    refine kthen_normal ?_
    refine awp_cond rfl (fun c6 => ?_) (fun c6 => ?_)
    · replace hr := cond_t c6 hr
      refine awp_skip ?_
      refine kthen_normal ?_
      refine awp_seq ?_
      refine awp_block ?_
      refine awp_seq ?_
      refine awp_region ?_
      refine awpl_op rfl (opTo_q (d := 12) rfl rfl ev_move) ?_
      refine awpl_op rfl (opTo_q (d := 13) rfl rfl ev_move) ?_
      obtain ⟨v7, h8, hr⟩ := bind_some hr
      refine awpl_op rfl (opTo_q (d := 14) rfl rfl (ev_idx (f := cS) rfl rfl ty_s_string ty_string rfl h8)) ?_
      refine awpl_op rfl (opTo_q (d := 15) rfl rfl (ev_load_ep rfl ty_string rfl rfl)) ?_
      refine awpl_op rfl (opTo_q (d := 16) rfl rfl ev_move) ?_
      refine awpl_op rfl (opTo_q (d := 17) rfl rfl (ev_seql (a := v7) (b := a1) rfl rfl)) ?_
      refine awpl_nil ?_
      refine kthen_normal ?_
      refine awp_cond rfl (fun c9 => ?_) (fun c9 => ?_)
      · replace hr := cond_t c9 hr
        refine awp_seq ?_
        refine awp_region ?_
        refine awpl_op rfl (opTo_q (d := 4) rfl rfl ev_assign) ?_
        refine awpl_nil ?_
        refine kthen_normal ?_
        refine awp_ret ?_
        refine kblock_ret ?_
        refine kthen_ret ?_
        cases hr
        exact ⟨by simp, rfl, (frLe_cons rfl frLe_nil), stoLe_nil⟩
      · replace hr := cond_f c9 hr
        refine awp_skip ?_
        refine kblock_normal ?_
        refine kthen_normal ?_
        refine awp_region ?_
        refine awpl_op rfl (opTo_q (d := 10) rfl rfl ev_move) ?_
        refine awpl_op rfl (opTo_q (d := 11) rfl rfl (ev_add rfl rfl)) ?_
        refine awpl_op rfl (opTo_q (d := 5) rfl rfl ev_assign) ?_
        refine awpl_nil ?_
        cases hr
        exact ⟨rfl, (frLe_cons rfl (frLe_cons rfl (frLe_cons rfl frLe_nil))), stoLe_nil⟩
    · replace hr := cond_f c6 hr
      refine awp_exit ?_
      refine kthen_exit ?_
      cases hr
      exact ⟨by simp, rfl, frLe_nil, stoLe_nil⟩
  · intro e fr2 st2 hq
    rcases o4 with b2 | b3
    · obtain ⟨rfl, hf, hs⟩ := hq
      refine kblock_exit ?_
      refine kthen_normal ?_
      refine awp_le hf hs ?_
      refine awp_seq ?_
      refine awp_region ?_
      refine awpl_op rfl (opTo_q (d := 4) rfl rfl ev_assign) ?_
      refine awpl_nil ?_
      refine kthen_normal ?_
      refine awp_ret ?_
      cases hr
      exact kret' rfl (.cons (res_tmp rfl) .nil) rfl
    · obtain ⟨rfl, hf, hs⟩ := hq
      refine kblock_ret ?_
      refine kthen_ret ?_
      cases hr
      exact kret' rfl (.cons (res1_le hf hs (res_tmp rfl)) .nil) rfl
end Go.Proofs.Ytlpmbmilnoncdaa

/- A function of the program computes what its Lean function does. Written by program. -/
namespace Go.Proofs.Ytlpmbmilnoncdaa
open Go.RowKit
set_option maxRecDepth 100000
set_option maxHeartbeats 40000000
set_option linter.unusedVariables false
theorem L_AliasMoreIsMore_run (a0 : List TAlias) (a1 : Str) (a2 : TAlias) (r : Bool) (hr : L_AliasMoreIsMore a0 a1 a2 = some r) : Run Try.prog 13 [.l TAlias.pc a0, .s a1, .agg [.s a2.Address, .l cS a2.To]] (.bo r) := by
  unfold L_AliasMoreIsMore at hr
  refine run_of_awp (fn := Try.f13) ⟨Try.func13, rfl, by kernel_rfl⟩ rfl (fun _ => rfl) fun g0 hg => ?_
  refine awp_seq ?_
  refine awp_region ?_
  refine awpl_op rfl (opTo_box (k := 5) 5 rfl rfl rfl rfl rfl) ?_
  refine awpl_op rfl (opTo_q (d := 6) rfl rfl ev_assign) ?_
  refine awpl_nil ?_
  refine kthen_normal ?_
  refine awp_seq ?_
  refine awp_region ?_
  refine awpl_op rfl (opTo_q (d := 14) rfl rfl ev_move) ?_
  refine awpl_op rfl (opTo_q (d := 15) rfl rfl ev_move) ?_
  obtain ⟨v1, h2, hr⟩ := bind_some hr
  refine awpl_op rfl (opTo_call (k := 16) (alias_Expand_run a0 a1 v1 h2) rfl rfl) ?_
  refine awpl_op rfl (opTo_q (d := 13) rfl rfl ev_move) ?_
  refine awpl_op rfl (opTo_q (d := 17) rfl rfl (ev_extract rfl rfl)) ?_
  refine awpl_op rfl (opTo_q (d := 18) rfl rfl (ev_extract rfl rfl)) ?_
  refine awpl_op rfl (opTo_alloc (k := 8) 8 rfl ty_api_Fault (.inr ⟨rfl, rfl⟩) rfl rfl rfl) ?_
  refine awpl_op rfl (opTo_q (d := 7) rfl rfl ev_assign) ?_
  refine awpl_op rfl (opTo_store rfl rfl rfl ty_api_Fault rfl rfl) ?_
  refine awpl_nil ?_
  refine kthen_normal ?_
  refine awp_seq ?_
  obtain ⟨j3, hx, hy⟩ := bind_some hr
  refine awp_join (fun j3 => [(0, .l TAlias.pc a0), (1, .s a1), (5, .ptr 5 0), (7, .l cS v1.1), (25, .bo j3)]) (fun j3 => [(5, .cells [.s a2.Address, .l cS a2.To])]) (fun z => j3 = z) ?_ ?_
  · have hr := hx
    clear hx hy
    refine awp_region ?_
    obtain ⟨v4, h5, hr⟩ := bind_some hr
    refine awpl_op rfl (opTo_call (k := 19) (L_expands_run  v4 h5) rfl rfl) ?_
    refine awpl_op rfl (opTo_q (d := 20) rfl rfl (ev_not rfl)) ?_
    refine awpl_op rfl (opTo_q (d := 21) rfl rfl ev_move) ?_
    refine bool_split ((!v4)) (fun c6 => ?_) (fun c6 => ?_)
    · replace hr := cond_t c6 hr
      refine awpl_no (d := 21) rfl rfl rfl c6 ?_
      refine awpl_no (d := 21) rfl rfl rfl c6 ?_
      refine awpl_no (d := 21) rfl rfl rfl c6 ?_
      refine awpl_op rfl (opTo_q (d := 25) rfl rfl (ev_pick_t rfl c6)) ?_
      refine awpl_nil ?_
      cases hr
      exact joinK_normal _ rfl (frLe_cons rfl (frLe_cons rfl (frLe_cons rfl (frLe_cons rfl (frLe_cons rfl frLe_nil))))) (stoLe_cons rfl stoLe_nil)
    · replace hr := cond_f c6 hr
      refine awpl_yes (d := 21) rfl rfl rfl c6 (opTo_q (d := 22) rfl rfl (ev_fieldAddr rfl ty_api_Fault.u rfl ty_int rfl)) ?_
      refine awpl_yes (d := 21) rfl rfl rfl c6 (opTo_q (d := 23) rfl rfl (ev_load rfl rfl ty_int rfl rfl)) ?_
      refine awpl_yes (d := 21) rfl rfl rfl c6 (opTo_q (d := 24) rfl rfl (ev_neq rfl rfl)) ?_
      refine awpl_op rfl (opTo_q (d := 25) rfl rfl (ev_pick_f rfl c6)) ?_
      refine awpl_nil ?_
      cases hr
      exact joinK_normal _ rfl (frLe_cons rfl (frLe_cons rfl (frLe_cons rfl (frLe_cons rfl (frLe_cons rfl frLe_nil))))) (stoLe_cons rfl stoLe_nil)
  · rintro _ rfl
    have hr := hy
    clear hx hy
    refine awp_cond rfl (fun c7 => ?_) (fun c7 => ?_)
    · replace hr := cond_t c7 hr
      obtain ⟨j8, hx, hy⟩ := bind_some hr
      refine awp_join (fun j8 => [(6, .bo j8)]) (fun j8 => []) (fun z => j8 = z) ?_ ?_
      · have hr := hx
        clear hx hy
        refine awp_region ?_
        obtain ⟨v9, h10, hr⟩ := bind_some hr
        refine awpl_op rfl (opTo_call (k := 26) (L_expands_run  v9 h10) rfl rfl) ?_
        refine awpl_op rfl (opTo_q (d := 27) rfl rfl ev_move) ?_
        refine bool_split v9 (fun c11 => ?_) (fun c11 => ?_)
        · replace hr := cond_t c11 hr
          refine awpl_yes (d := 27) rfl rfl rfl c11 (opTo_q (d := 28) rfl rfl ev_move) ?_
          refine awpl_yes (d := 27) rfl rfl rfl c11 (opTo_q (d := 29) rfl rfl (ev_llen (f := cS) rfl ty_s_string.u)) ?_
          refine awpl_yes (d := 27) rfl rfl rfl c11 (opTo_q (d := 30) rfl rfl (ev_eql rfl rfl)) ?_
          refine awpl_op rfl (opTo_q (d := 31) rfl rfl (ev_pick_t rfl c11)) ?_
          refine awpl_op rfl (opTo_q (d := 6) rfl rfl ev_assign) ?_
          refine awpl_nil ?_
          cases hr
          exact joinK_normal _ rfl (frLe_cons rfl frLe_nil) stoLe_nil
        · replace hr := cond_f c11 hr
          refine awpl_no (d := 27) rfl rfl rfl c11 ?_
          refine awpl_no (d := 27) rfl rfl rfl c11 ?_
          refine awpl_no (d := 27) rfl rfl rfl c11 ?_
          refine awpl_op rfl (opTo_q (d := 31) rfl rfl (ev_pick_f rfl c11)) ?_
          refine awpl_op rfl (opTo_q (d := 6) rfl rfl ev_assign) ?_
          refine awpl_nil ?_
          cases hr
          exact joinK_normal _ rfl (frLe_cons rfl frLe_nil) stoLe_nil
      · rintro _ rfl
        have hr := hy
        clear hx hy
        refine awp_ret ?_
        refine kthen_ret ?_
        cases hr
        exact kret' rfl (.cons (res_tmp rfl) .nil) rfl
    · replace hr := cond_f c7 hr
      refine awp_skip ?_
      refine kthen_normal ?_
      refine awp_seq ?_
      refine awp_seq ?_
      refine awp_region ?_
      refine awpl_op rfl (opTo_q (d := 9) rfl rfl ev_assign) ?_
      refine awpl_nil ?_
      refine kthen_normal ?_
      refine awp_block ?_
      obtain ⟨o15, hl, hr⟩ := bind_some hr
      refine awp_loop (L_AliasMoreIsMore_l1 a0 a2) (fun s12 => [(0, .l TAlias.pc a0), (1, .s a1), (5, .ptr 5 0), (7, .l cS v1.1), (9, .i s12)]) (fun s12 => [(5, .cells [.s a2.Address, .l cS a2.To])]) (fun o => match o with | .inl b13 => At (.exit 0) [(0, .l TAlias.pc a0), (1, .s a1), (5, .ptr 5 0), (7, .l cS v1.1)] [(5, .cells [.s a2.Address, .l cS a2.To])] | .inr b14 => At .ret [(6, .bo b14)] []) ?_ 0 hl (frLe_cons rfl (frLe_cons rfl (frLe_cons rfl (frLe_cons rfl (frLe_cons rfl frLe_nil))))) (stoLe_cons rfl stoLe_nil) ?_
      · intro s12 x16 hr
        unfold L_AliasMoreIsMore_l1 at hr
        refine awp_seq ?_
        refine awp_seq ?_
        refine awp_region ?_
        refine awpl_op rfl (opTo_q (d := 32) rfl rfl ev_move) ?_
        refine awpl_op rfl (opTo_q (d := 33) rfl rfl ev_move) ?_
        refine awpl_op rfl (opTo_q (d := 34) rfl rfl (ev_llen (f := TAlias.pc) rfl ty_s_api_Alias.u)) ?_
        refine awpl_op rfl (opTo_q (d := 35) rfl rfl (ev_lss rfl rfl)) ?_
        refine awpl_nil ?_
        refine kthen_normal ?_
        refine awp_cond rfl (fun c17 => ?_) (fun c17 => ?_)
        · replace hr := cond_t c17 hr
          refine awp_skip ?_
          refine kthen_normal ?_
          refine awp_seq ?_
          refine awp_block ?_
          refine awp_seq ?_
          obtain ⟨v18, h19, hr⟩ := bind_some hr
          refine awp_drawn 7 [(44, .s a2.Address), (43, .ptr 5 0), (42, .l cS v18.To), (41, .ep [pL cS v18.To]), (40, .ep [pS v18.Address, pL cS v18.To]), (39, .i s12), (38, .l TAlias.pc a0)] mixed (by kernel_rfl) rfl rfl (.run (.plain rfl) (opG_q ev_move) (.run (.plain rfl) (opG_q ev_move) (.run (.plain rfl) (opG_q (ev_idx (f := TAlias.pc) rfl rfl ty_s_api_Alias ty_api_Alias rfl h19)) (.run (.plain rfl) (opG_q (ev_fieldAddr_ep rfl ty_api_Alias.u rfl ty_s_string rfl rfl)) (.run (.plain rfl) (opG_q (ev_load_ep rfl ty_s_string rfl rfl)) (.run (.plain rfl) (opG_q (ev_fieldAddr rfl ty_api_Alias.u rfl ty_string rfl)) (.run (.plain rfl) (opG_q (ev_load rfl rfl ty_string rfl rfl)) .nil))))))) rfl ?_
          obtain ⟨v20, h21, hr⟩ := bind_some hr
          refine awpl_op rfl (opTo_call (k := 45) (R_Has_run v18.To a2.Address v20 h21) rfl rfl) ?_
          refine awpl_nil ?_
          refine kthen_normal ?_
          refine awp_cond rfl (fun c22 => ?_) (fun c22 => ?_)
          · replace hr := cond_t c22 hr
            refine awp_seq ?_
            refine awp_region ?_
            refine awpl_op rfl (opTo_q (d := 6) rfl rfl ev_assign) ?_
            refine awpl_nil ?_
            refine kthen_normal ?_
            refine awp_ret ?_
            refine kblock_ret ?_
            refine kthen_ret ?_
            cases hr
            exact ⟨by simp, rfl, (frLe_cons rfl frLe_nil), stoLe_nil⟩
          · replace hr := cond_f c22 hr
            refine awp_skip ?_
            refine kblock_normal ?_
            refine kthen_normal ?_
            refine awp_region ?_
            refine awpl_op rfl (opTo_q (d := 36) rfl rfl ev_move) ?_
            refine awpl_op rfl (opTo_q (d := 37) rfl rfl (ev_add rfl rfl)) ?_
            refine awpl_op rfl (opTo_q (d := 9) rfl rfl ev_assign) ?_
            refine awpl_nil ?_
            cases hr
            exact ⟨rfl, (frLe_cons rfl (frLe_cons rfl (frLe_cons rfl (frLe_cons rfl (frLe_cons rfl frLe_nil))))), (stoLe_cons rfl stoLe_nil)⟩
        · replace hr := cond_f c17 hr
          refine awp_exit ?_
          refine kthen_exit ?_
          cases hr
          exact ⟨by simp, rfl, (frLe_cons rfl (frLe_cons rfl (frLe_cons rfl (frLe_cons rfl frLe_nil)))), (stoLe_cons rfl stoLe_nil)⟩
      · intro e fr2 st2 hq
        rcases o15 with b13 | b14
        · obtain ⟨rfl, hf, hs⟩ := hq
          replace hr := elim_l hr
          refine kblock_exit ?_
          refine kthen_normal ?_
          refine awp_le hf hs ?_
          refine awp_seq ?_
          refine awp_region ?_
          refine awpl_op rfl (opTo_q (d := 10) rfl rfl ev_assign) ?_
          refine awpl_adopt 1010 (d := 10) 61 2 rfl rfl rfl ?_
          refine awpl_nil ?_
          refine kthen_normal ?_
          refine awp_seq ?_
          refine awp_region ?_
          refine awpl_op rfl (opTo_q (d := 46) rfl rfl ev_move) ?_
          refine awpl_op rfl (opTo_q (d := 47) rfl rfl ev_move) ?_
          obtain ⟨v23, h24, hr⟩ := bind_some hr
          refine awpl_op rfl (opTo_append (k := 48) (F := TAlias.pc) (l := (([] : List TAlias))) (xs := a0) (lim := 3518437208883) rfl rfl rfl rfl ty_s_api_Alias ty_api_Alias rfl rfl (fun _ => rfl) rfl h24) ?_
          refine awpl_op rfl (opTo_q (d := 10) rfl rfl ev_assign) ?_
          refine awpl_nil ?_
          refine kthen_normal ?_
          refine awp_seq ?_
          refine awp_region ?_
          refine awpl_op rfl (opTo_q (d := 50) rfl rfl ev_move) ?_
          refine awpl_op rfl (opTo_q (d := 51) rfl rfl (ev_loadN rfl rfl ty_api_Alias rfl rfl)) ?_
          refine awpl_op rfl (opTo_g (d := 52) rfl rfl (opG_lit (F := TAlias.pc) (l := ([a2] : List TAlias)) ty_s_api_Alias ty_api_Alias rfl (fun _ => rfl) rfl rfl)) ?_
          obtain ⟨v25, h26, hr⟩ := bind_some hr
          refine awpl_op rfl (opTo_append (k := 53) (F := TAlias.pc) (l := v23) (xs := (([a2] : List TAlias))) (lim := 3518437208883) rfl rfl rfl rfl ty_s_api_Alias ty_api_Alias rfl rfl (fun _ => rfl) rfl h26) ?_
          refine awpl_op rfl (opTo_q (d := 54) rfl rfl ev_move) ?_
          refine awpl_pub (d := 53) (F := TAlias.pc) (l := v25) rfl rfl ?_
          obtain ⟨v27, h28, hr⟩ := bind_some hr
          refine awpl_op rfl (opTo_call (k := 55) (alias_Expand_run v25 a1 v27 h28) rfl rfl) ?_
          refine awpl_op rfl (opTo_q (d := 49) rfl rfl ev_move) ?_
          refine awpl_op rfl (opTo_q (d := 56) rfl rfl (ev_extract rfl rfl)) ?_
          refine awpl_op rfl (opTo_q (d := 57) rfl rfl (ev_extract rfl rfl)) ?_
          refine awpl_op rfl (opTo_alloc (k := 12) 12 rfl ty_api_Fault (.inr ⟨rfl, rfl⟩) rfl rfl rfl) ?_
          refine awpl_op rfl (opTo_q (d := 11) rfl rfl ev_assign) ?_
          refine awpl_op rfl (opTo_store rfl rfl rfl ty_api_Fault rfl rfl) ?_
          refine awpl_nil ?_
          refine kthen_normal ?_
          obtain ⟨j29, hx, hy⟩ := bind_some hr
          refine awp_join (fun j29 => [(6, .bo j29)]) (fun j29 => []) (fun z => j29 = z) ?_ ?_
          · have hr := hx
            clear hx hy
            refine awp_region ?_
            refine awpl_op rfl (opTo_q (d := 58) rfl rfl (ev_fieldAddr rfl ty_api_Fault.u rfl ty_int rfl)) ?_
            refine awpl_op rfl (opTo_q (d := 59) rfl rfl (ev_load rfl rfl ty_int rfl rfl)) ?_
            refine awpl_op rfl (opTo_q (d := 60) rfl rfl (ev_neq rfl rfl)) ?_
            refine awpl_op rfl (opTo_q (d := 61) rfl rfl ev_move) ?_
            refine bool_split ((v27.2.Code != 0)) (fun c30 => ?_) (fun c30 => ?_)
            · replace hr := cond_t c30 hr
              refine awpl_no (d := 61) rfl rfl rfl c30 ?_
              refine awpl_no (d := 61) rfl rfl rfl c30 ?_
              refine awpl_no (d := 61) rfl rfl rfl c30 ?_
              refine awpl_no (d := 61) rfl rfl rfl c30 ?_
              refine awpl_op rfl (opTo_q (d := 66) rfl rfl (ev_pick_t rfl c30)) ?_
              refine awpl_op rfl (opTo_q (d := 67) rfl rfl ev_move) ?_
              refine awpl_no (d := 67) rfl rfl rfl rfl ?_
              refine awpl_no (d := 67) rfl rfl rfl rfl ?_
              refine awpl_no (d := 67) rfl rfl rfl rfl ?_
              refine awpl_op rfl (opTo_q (d := 71) rfl rfl (ev_pick_t rfl rfl)) ?_
              refine awpl_op rfl (opTo_q (d := 6) rfl rfl ev_assign) ?_
              refine awpl_nil ?_
              cases hr
              exact joinK_normal _ rfl (frLe_cons rfl frLe_nil) stoLe_nil
            · replace hr := cond_f c30 hr
              refine awpl_yes (d := 61) rfl rfl rfl c30 (opTo_q (d := 62) rfl rfl (ev_fieldAddr rfl ty_api_Alias.u rfl ty_string rfl)) ?_
              refine awpl_yes (d := 61) rfl rfl rfl c30 (opTo_q (d := 63) rfl rfl (ev_load rfl rfl ty_string rfl rfl)) ?_
              refine awpl_yes (d := 61) rfl rfl rfl c30 (opTo_q (d := 64) rfl rfl ev_move) ?_
              refine awpl_yes (d := 61) rfl rfl rfl c30 (opTo_q (d := 65) rfl rfl (ev_seql (a := a2.Address) (b := a1) rfl rfl)) ?_
              refine awpl_op rfl (opTo_q (d := 66) rfl rfl (ev_pick_f rfl c30)) ?_
              refine awpl_op rfl (opTo_q (d := 67) rfl rfl ev_move) ?_
              refine bool_split ((a2.Address == a1)) (fun c31 => ?_) (fun c31 => ?_)
              · replace hr := cond_t c31 hr
                refine awpl_no (d := 67) rfl rfl rfl c31 ?_
                refine awpl_no (d := 67) rfl rfl rfl c31 ?_
                refine awpl_no (d := 67) rfl rfl rfl c31 ?_
                refine awpl_op rfl (opTo_q (d := 71) rfl rfl (ev_pick_t rfl c31)) ?_
                refine awpl_op rfl (opTo_q (d := 6) rfl rfl ev_assign) ?_
                refine awpl_nil ?_
                cases hr
                exact joinK_normal _ rfl (frLe_cons rfl frLe_nil) stoLe_nil
              · replace hr := cond_f c31 hr
                refine awpl_yes (d := 67) rfl rfl rfl c31 (opTo_q (d := 68) rfl rfl ev_move) ?_
                refine awpl_yes (d := 67) rfl rfl rfl c31 (opTo_q (d := 69) rfl rfl ev_move) ?_
                obtain ⟨v32, h33, hr⟩ := bind_some hr
                refine awpl_yes (d := 67) rfl rfl rfl c31 (opTo_call (k := 70) (R_Strings_run v1.1 v27.1 v32 h33) rfl rfl) ?_
                refine awpl_op rfl (opTo_q (d := 71) rfl rfl (ev_pick_f rfl c31)) ?_
                refine awpl_op rfl (opTo_q (d := 6) rfl rfl ev_assign) ?_
                refine awpl_nil ?_
                cases hr
                exact joinK_normal _ rfl (frLe_cons rfl frLe_nil) stoLe_nil
          · rintro _ rfl
            have hr := hy
            clear hx hy
            refine awp_ret ?_
            cases hr
            exact kret' rfl (.cons (res_tmp rfl) .nil) rfl
        · obtain ⟨rfl, hf, hs⟩ := hq
          replace hr := elim_r hr
          refine kblock_ret ?_
          refine kthen_ret ?_
          cases hr
          exact kret' rfl (.cons (res1_le hf hs (res_tmp rfl)) .nil) rfl
end Go.Proofs.Ytlpmbmilnoncdaa

/- Small facts that all my walks use: endings, blocks, rows, frames. No program is named. -/
namespace Go.Proofs.Ytlpmbmilnoncdaa
open Go.RowKit

theorem ret_bool {a b : Bool} (h : a = b) : Ending.returned (.bool a) = .returned (.bool b) := by rw [h]
theorem ret_int {k : IntKind} {a b : Int} (h : a = b) : Ending.returned (.int k a) = .returned (.int k b) := by rw [h]

theorem take_all {α : Type} (p : α → Bool) (l : List α) (k : Nat) (h : k < l.length) : (l.take (k + 1)).all p = ((l.take k).all p && p l[k]) := by
  rw [List.take_succ_eq_append_getElem h, List.all_append]; simp
theorem all_false {α : Type} (p : α → Bool) (l : List α) (k : Nat) (h : k < l.length) (hp : p l[k] = false) : l.all p = false := by
  rw [List.all_eq_false]; exact ⟨l[k], List.getElem_mem h, by simp [hp]⟩

theorem bcell {W w1 : World} (hb : Below W.heap.size W w1) : (∀ b o, b < W.heap.size → w1.cell? ⟨b, o, none⟩ = W.cell? ⟨b, o, none⟩) ∧ (∀ b o, b < W.heap.size → w1.frozen? ⟨b, o, none⟩ = W.frozen? ⟨b, o, none⟩) :=
  ⟨fun b o h => hb.cell (p := ⟨b, o, none⟩) h, fun b o h => hb.frozen (p := ⟨b, o, none⟩) h⟩


/-- block b is just these cells, none frozen -/
def Blk (w : World) (b : Nat) (t : TypeId) (cs : Array Value) : Prop := w.heap[b]? = some (.cells cs t (0, 0))
theorem Blk.lt {w : World} {b : Nat} {t : TypeId} {cs : Array Value} (h : Blk w b t cs) : b < w.heap.size := by
  rcases Nat.lt_or_ge b w.heap.size with hlt | hge
  · exact hlt
  · unfold Blk at h; rw [Array.getElem?_eq_none hge] at h; cases h
theorem Blk.two {w : World} {b : Nat} {t : TypeId} {x y : Value} (h : Blk w b t #[x, y]) :
    w.cell? ⟨b, 0, none⟩ = some x ∧ w.cell? ⟨b, 1, none⟩ = some y ∧ w.frozen? ⟨b, 0, none⟩ = false ∧ w.frozen? ⟨b, 1, none⟩ = false ∧ b < w.heap.size := by
  refine ⟨?_, ?_, ?_, ?_, h.lt⟩ <;> unfold Blk at h <;> simp [World.cell?, World.frozen?, h]
theorem Blk.new (w : World) (t : TypeId) (cs : Array Value) : Blk (w.alloc (.cells cs t)) w.heap.size t cs := heap_alloc_new w _
theorem Blk.alloc {w : World} {b : Nat} {t : TypeId} {cs : Array Value} (h : Blk w b t cs) (o : Obj) : Blk (w.alloc o) b t cs := (Below.heap_alloc w o b h.lt).trans h
theorem Blk.below {w w' : World} {b : Nat} {t : TypeId} {cs : Array Value} {B : Nat} (h : Blk w b t cs) (hb : Below B w w') (hg : b < B) : Blk w' b t cs := (hb.block b hg).trans h

theorem val_int {k : IntKind} {a b : Int} (h : a = b) : Value.int k a = .int k b := by rw [h]
theorem tup3 {k : IntKind} {a b : Int} {x y : Value} (h : a = b) : Ending.returned (.tuple #[.int k a, x, y]) = .returned (.tuple #[.int k b, x, y]) := by rw [h]
section
variable {w1 w2 : World} {b t : Nat} {cs : Array Value} {o : Obj}
theorem Blk.step_new (hb : Below (w1.alloc (.cells cs t)).heap.size (w1.alloc (.cells cs t)) w2) : Blk w2 w1.heap.size t cs :=
  (Blk.new w1 t cs).below hb (by simp)
theorem Blk.step_old (h : Blk w1 b t cs) (hb : Below (w1.alloc o).heap.size (w1.alloc o) w2) : Blk w2 b t cs :=
  (h.alloc o).below hb (by have := h.lt; simp; omega)
end
theorem below_step {w w1 w2 : World} {o : Obj} (h : Below w.heap.size w w1) (hb : Below (w1.alloc o).heap.size (w1.alloc o) w2) : Below w.heap.size w w2 :=
  (h.alloc h.size o).trans (hb.mono (by have := h.size; simp; omega))
theorem below_trans {w w1 w2 : World} (h : Below w.heap.size w w1) (hb : Below w1.heap.size w1 w2) : Below w.heap.size w w2 :=
  h.trans (hb.mono h.size)

theorem keep2 {W w5 w6 : World} {b : Nat} {x y : Value} (h : w5.cell? ⟨b, 0, none⟩ = some x ∧ w5.cell? ⟨b, 1, none⟩ = some y ∧ Below W.heap.size W w5) (hb : b < W.heap.size) (k : Below w5.heap.size w5 w6) :
    w6.cell? ⟨b, 0, none⟩ = some x ∧ w6.cell? ⟨b, 1, none⟩ = some y ∧ Below W.heap.size W w6 := by
  have hs := h.2.2.size
  exact ⟨(k.cell (p := ⟨b, 0, none⟩) (Nat.lt_of_lt_of_le hb hs)).trans h.1, (k.cell (p := ⟨b, 1, none⟩) (Nat.lt_of_lt_of_le hb hs)).trans h.2.1, below_trans h.2.2 k⟩

/-- a slice of cells, one a value: it holds these values -/
def Row (w : World) (a : Option Addr) (len : Nat) (vs : List Value) : Prop :=
  vs.length = len ∧ (len = 0 ∨ ∃ b off, a = some ⟨b, off, none⟩ ∧ ∀ i v, vs[i]? = some v → w.cell? ⟨b, off + i, none⟩ = some v)


end Go.Proofs.Ytlpmbmilnoncdaa

/- What every law's row wants at its end: arguments of any shape read as they did where nothing that was there has turned. -/
namespace Go.Proofs.Ytlpmbmilnoncdaa
open Go.ChangeShapes Go.WideShapes Go.ChangeAt Go.RowKit
open Go.ChangeMaps (open_string shut_string)

theorem own : ownKnob Try.prog.godebug = none := by kernel_rfl
theorem laidOut : laidOutB Try.prog = true := by kernel_rfl

theorem trodAll_stays {H : Type} {enc : TypeId × Value → H} {P : Program} (hl : laidOutB P = true) {W W' : World} (hb : Below W.heap.size W W') :
    ∀ (ts : List TypeId) (vs : List Value) (ds : List (DataW H)) (ps : List MemPlace), (ts.all fun t => P.readableRec t && decide (t < P.types.size)) = true →
      DataW.TrodAll enc P W 0 (fun _ => true) true ts vs ds ps → DataW.TrodAll enc P W' 0 (fun b => decide (b < W.heap.size)) true ts vs ds ps
  | [], [], [], _, _, h => h
  | t :: ts, v :: vs, d :: ds, ps, hts, ⟨p, q, h, hs, e⟩ => by
    simp only [List.all_cons, Bool.and_eq_true, decide_eq_true_eq] at hts
    have lt : ∀ x ∈ p, x.block < W.heap.size := by obtain ⟨m, hm⟩ := h; exact DataW.trod_lt m _ _ _ hm
    exact ⟨p, q, Below.trod hl hts.1.1 hts.1.2 h hb lt, trodAll_stays hl hb ts vs ds q hts.2 hs, e⟩

/-- THE POST of a law: it returned true, and nothing that was there has turned. -/
theorem post_true {H : Type} {enc : TypeId × Value → H} {P : Program} {f : Func} {s : ChangeSpec} {t : TypeId} (hl : laidOutB P = true) (hres : f.resultTypes = #[t]) (ht : P.underlying t = some .bool)
    (hts : (f.params.toList.all fun t => P.readableRec t && decide (t < P.types.size)) = true) {W W' : World} {args : Array Value} {ds gs : List (DataW H)} {before : List MemPlace} (hv : s.vars = [])
    (hspec : s.fn H (ds ++ gs) = { results := [.lit (.bool true)], args := ds, vars := [] })
    (hW : DataW.Whole enc P f.params.toList s.vars false W args.toList ds gs before) (hb : Below W.heap.size W W') :
    s.post enc P f false true false false W args (.bool true) W' := by
  have hW' := hW
  obtain ⟨p, q, hA, hV, hbe, hfz, hnd⟩ := hW
  refine ⟨ds, gs, before, [], p, [], hW', ?_, ?_, ?_, ?_, fun h => by cases h⟩
  · rw [hspec, hres]; exact trodAll_mk1 (shut_bool ht _)
  · rw [hspec]; exact trodAll_stays hl hb _ _ _ _ hts hA
  · rw [hspec, hv]; rfl
  · have hq : q = [] := by rw [hv] at hV; cases gs with
      | nil => exact hV
      | cons g gs => exact hV.elim
    refine World.keptBut_mono (fun p hp => ⟨hp, ?_⟩) (hb.frame (· ∈ before))
    rw [hbe, hq, List.append_nil] at hp
    exact .inr (.inl hp)

/-- a slice of integers that came in -/
theorem open_row_int {H : Type} {enc : TypeId × Value → H} {P : Program} {W : World} {base : Nat} {t e : TypeId} {k : IntKind} {v : Value} {d : DataW H} {p : List MemPlace} (ht : P.underlying t = some (.slice e)) (he : P.underlying e = some (.int k)) (hc : P.cellsOf e = 1)
    (hok : Value.okWide P W .any base t v) (h : DataW.Trod enc P W 0 (fun _ => true) true t v d p) :
    ∃ (a : Option Addr) (len cap : Nat) (zs : List Int), v = .slice a len cap ∧ len ≤ maxLen ∧ Row W a len (zs.map (Value.int k)) ∧ ∀ z ∈ zs, (Lit.int k z).wf = true := by
  obtain ⟨a, len, cap, rfl⟩ := okWide_slice ht hok
  obtain ⟨fuel, hf⟩ := h
  rcases open_ints ht he hc hf with ⟨hcs, _⟩ | ⟨x, l, c, zs, hcs, _, hl, hm, hz, _, hcell, hwz⟩
  · simp [Value.cells] at hcs
    obtain ⟨rfl, rfl, rfl⟩ := hcs
    exact ⟨none, 0, 0, [], rfl, Nat.zero_le _, ⟨rfl, .inl rfl⟩, by simp⟩
  · simp [Value.cells] at hcs
    obtain ⟨rfl, rfl, rfl⟩ := hcs
    have hz : zs.length = cap := by simpa using hz
    refine ⟨_, len, cap, zs.take len, rfl, Nat.le_trans hl hm, ⟨by simp; omega, ?_⟩, fun z hz => hwz z (List.mem_of_mem_take hz)⟩
    by_cases h0 : len = 0
    · exact .inl h0
    obtain ⟨b, off, spot⟩ := x
    have hc0 := hcell 0 (by omega)
    have hspot : spot = none := by simpa [Addr.add] using World.cell?_spot hc0
    subst hspot
    refine .inr ⟨b, off, rfl, fun i v hv => ?_⟩
    rw [List.getElem?_map, List.getElem?_take] at hv
    by_cases hi : i < len
    · rw [if_pos hi] at hv
      have hi2 : i < zs.length := by omega
      have := hcell i hi2
      rw [List.getElem?_eq_getElem hi2] at hv
      simp only [Option.map_some, Option.some.injEq] at hv
      subst hv
      have ea : (⟨b, off, none⟩ : Addr).add i = ⟨b, off + i, none⟩ := by
        unfold Addr.add
        by_cases h0 : i = 0
        · simp [h0]
        · simp [h0]
      rw [ea] at this
      rw [this]
      simp [hi2]
    · rw [if_neg hi] at hv
      simp at hv

end Go.Proofs.Ytlpmbmilnoncdaa

/- A row's frame for laws that read package variables of the library: the shape of the first world is handed over. -/
namespace Go.Proofs.Ytlpmbmilnoncdaa
open Go.ChangeShapes Go.WideShapes Go.ChangeAt Go.RowKit
theorem returnsInHanded_of_cond_shaped {H : Type} {enc : TypeId × Value → H} {a : Assume} {C : Checked} {os : Os} {f : FuncId} {fn : Func} {s : OpenSpec} {k : (H : Type) → List (DataW H) → Bool} (hk : s.cond = some k) {F : Stop.Interp} {conds : List PathCond} {apart fresh handsOn again : Bool}
    (own : ownKnob C.prog.godebug = none) (started : os.Started) (noInit : C.prog.inits.idxOf? f = none) (hfn : C.prog.funcs[f]? = some fn)
    (witness : ∃ (w : World) (tape : Tape) (i : Input), w.os = os ∧ (w.forCall tape i).Shaped C.prog ∧ i.vars = [] ∧ Input.okWide C.prog (w.forCall tape i) .any w.heap.size f i ∧
      s.pre6 enc C.prog fn conds apart (w.forCall tape i).memory i.args ∧ a.holds C.prog (lone (Frame.enter C.prog f i.args .normal) [] (w.forCall tape i)))
    (contract : ∀ (W : World) (base : Nat) (args : Array Value) (ds gs : List (DataW H)) (before : List MemPlace),
      (∀ (j : Nat) t v, fn.params[j]? = some t → args[j]? = some v → Value.okWide C.prog W .any base t v) →
      DataW.Whole enc C.prog fn.params.toList s.vars apart W args.toList ds gs before →
      conds.all (PathCond.test C.prog ⟨fn.params.toList, ds, s.bare.plain.varTypes C.prog, gs⟩) = true → k H (ds ++ gs) = true →
      W.ShapedOpen C.prog →
      a.holds C.prog (lone (Frame.enter C.prog f args .normal) [] W) →
      Calls C.prog f args W fun e W' => ∃ v, e = .returned v ∧ (s.at F).post enc C.prog fn apart fresh handsOn again W args v W') :
    ReturnsInHanded a C os f .any (s.pre6 enc C.prog fn conds apart) ((s.at F).post enc C.prog fn apart fresh handsOn again) := by
  refine returnsInHanded_of_calls own started noInit witness ?_
  intro w tape i _ hsh _ hok hpre hholds
  obtain ⟨_, _, _, fn', hfn', _, _, _, _, hval⟩ := hok
  have e : fn' = fn := Option.some.inj (hfn'.symm.trans hfn)
  subst e
  obtain ⟨ds, gs, before, hw, hc, hkk⟩ := (OpenSpec.pre_some hk conds apart _ _).1 hpre.1
  refine (contract (w.forCall tape i) w.heap.size i.args ds gs before hval (DataW.Whole.of_heap (w' := w.forCall tape i) (by rfl) hw) hc hkk hsh hholds).mono fun e W' ⟨v, he, hp⟩ => ?_
  subst he
  exact ChangeSpec.post_blind hp
theorem gl_of_shaped {W : World} (h : W.ShapedOpen Try.prog) : Gl (gAll W) := by
  intro p hp
  simp only [globs, List.mem_cons, List.not_mem_nil, or_false] at hp
  subst hp
  obtain ⟨m, hm⟩ := cell_of_shapedOpen_int (P := Try.prog) (g := 0) (t := 3) (zero := #[.int .i64 0]) h (of_decide_eq_true (by kernel_rfl)) (by kernel_rfl) rfl (by kernel_rfl) (by kernel_rfl) Try.underlying3
  obtain ⟨h1, h2⟩ := uAll_lt hm
  exact ⟨h2, h1, m, hm⟩
end Go.Proofs.Ytlpmbmilnoncdaa

namespace Go.Proofs.Ytlpmbmilnoncdaa.aliasMoreIsMore
open Go.ChangeShapes Go.WideShapes Go.ChangeAt Go.RowKit
set_option linter.unusedVariables false
set_option maxRecDepth 100000

theorem contract (H : Type) (enc : TypeId × Value → H) (W : World) (base : Nat) (args : Array Value) (ds gs : List (DataW H)) (before : List MemPlace)
    (hval : ∀ (j : Nat) t v, Try.f13.params[j]? = some t → args[j]? = some v → Value.okWide Try.prog W .any base t v)
    (hW : DataW.Whole enc Try.prog Try.f13.params.toList Rows.aliasMoreIsMoreSpec.vars false W args.toList ds gs before) (hk : Rows.uptoSmall H (ds ++ gs) = true) (hgl : Gl (gAll W)) :
    Calls Try.prog 13 args W fun e W' => ∃ v, e = .returned v ∧ Rows.aliasMoreIsMoreSpec.post enc Try.prog Try.f13 false true false false W args v W' := by
  have hW' := hW
  obtain ⟨p, q, hA0, hV, rfl, hfz, hnd⟩ := hW
  have hA : DataW.TrodAll enc Try.prog W 0 (fun _ => true) true Try.f13.params.toList args.toList ds p := hA0
  rw [Try.params13] at hA hval
  obtain ⟨v0, vs0, d0, ds0, p0, q0, hargs, rfl, rfl, h0, r0⟩ := trodAll_cons hA
  obtain ⟨v1, vs1, d1, ds1, p1, q1, rfl, rfl, rfl, h1, r1⟩ := trodAll_cons r0
  obtain ⟨v2, vs2, d2, ds2, p2, q2, rfl, rfl, rfl, h2, r2⟩ := trodAll_cons r1
  obtain ⟨rfl, rfl, rfl⟩ := trodAll_nil r2
  obtain rfl : args = #[v0, v1, v2] := by cases args; simp_all
  obtain ⟨rfl, rfl⟩ := trodVars_none hV
  obtain ⟨a0, e0, o0, k0⟩ := arg_one op_s_api_Alias (by obtain ⟨_, _, _, h⟩ := okWide_slice ty_s_api_Alias.u (hval 0 _ v0 rfl rfl); rw [h]; rfl) h0
  obtain ⟨a1, e1, o1, k1⟩ := arg_one op_string (by obtain ⟨_, h⟩ := okWide_string ty_string.u (hval 1 _ v1 rfl rfl); rw [h]; rfl) h1
  obtain ⟨a2, e2, o2, k2⟩ := arg_agg op_api_Alias (by obtain ⟨cs, h, _⟩ := okWide_struct ty_api_Alias.u (hval 2 _ v2 rfl rfl); exact ⟨cs, h⟩) h2
  have hk2 := of_decide_eq_true hk
  simp only [List.append_nil, Rows.uptoBulkAll] at hk2
  have ht := L_AliasMoreIsMore_true a0 a1 a2 o0 o1 o2 (by (try dsimp only); omega)
  have key : Calls Try.prog 13 #[v0, v1, v2] W fun e W' => e = .returned (.bool true) ∧ Below W.heap.size W W' := calls_of_run (L_AliasMoreIsMore_run a0 a1 a2 true ht) hgl (relArgs_of (.cons (e0 _ rfl) (.cons (e1 _ rfl) (.cons e2 .nil))))
  refine key.mono fun e W' ⟨he, hb⟩ => ⟨_, he, ?_⟩
  exact post_true laidOut (by kernel_rfl) Try.underlying4 (by kernel_rfl) rfl rfl hW' hb

theorem lifted (os : Os) (started : os.Started) (H : Type) (enc : TypeId × Value → H) (F : Stop.Interp) :
    ReturnsInHanded {} Try.checked os 13 .any ((Rows.OpenSpec.upto Rows.aliasMoreIsMoreSpec).pre6 enc Try.prog Try.f13 Rows.aliasMoreIsMoreUptoRow.domain false) (((Rows.OpenSpec.upto Rows.aliasMoreIsMoreSpec).at F).post enc Try.prog Try.f13 false true false false) := by
  refine returnsInHanded_of_cond_shaped (C := Try.checked) (s := Rows.OpenSpec.upto Rows.aliasMoreIsMoreSpec) (k := Rows.uptoSmall) rfl own started (by kernel_rfl) Try.func13
    (OpenSpec.witness (enc := enc) (C := Try.checked) (s := Rows.OpenSpec.upto Rows.aliasMoreIsMoreSpec) (k := Rows.uptoSmall) rfl false ⟨#[], #[.slice none 0 0, .string ⟨#[]⟩, .agg #[.string ⟨#[]⟩, .slice none 0 0]], []⟩ 8 (by kernel_rfl) (by kernel_rfl) (by kernel_rfl)
      (x := ([.nil, .lit (.string []), .agg [.lit (.string []), .nil]], [], [])) (by kernel_rfl) rfl (by kernel_rfl)) ?_
  intro W base args ds gs before hval hW _ hk hsh _
  exact contract H enc W base args ds gs before hval hW hk (gl_of_shaped hsh)

theorem over : Rows.aliasMoreIsMoreUptoRow.holds Try.pinned (Rows.OpenSpec.upto Rows.aliasMoreIsMoreSpec) :=
  OpenClaim.holds_of_cond 13 Try.f13 rfl rfl rfl rfl rfl rfl rfl ⟨rfl, rfl, rfl, rfl, rfl⟩ rfl rfl rfl rfl rfl (by kernel_rfl) Try.func13 (by kernel_rfl)
    (of_decide_eq_true (by kernel_rfl)) (by unfold Func.isWrapper; first | (rw [if_pos (by decide +kernel)]; kernel_rfl) | (rw [if_neg (by decide +kernel)]; exact ⟨rfl, rfl⟩))
    (fun os started H enc _ F => lifted os started H enc F)

theorem proved : Rows.AliasMoreIsMoreUptoSaid := over
#print axioms proved
end Go.Proofs.Ytlpmbmilnoncdaa.aliasMoreIsMore
