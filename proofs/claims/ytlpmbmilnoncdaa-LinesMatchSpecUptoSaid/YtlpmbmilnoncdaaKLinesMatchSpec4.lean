/- Part 4 of the proof of the law LinesMatchSpec: what it needs. -/
import Derived.Test.YtlpmbmilnoncdaaKLinesMatchSpec3
import Derived.WalkKit
import Derived.WalkSpells
import Derived.WalkLawsBesides
import Derived.Deep.QuietTactic
import Derived.BigQuiet
import Derived.Lib.Hide
import Derived.Handy
import Derived.Deep.RegionHeld3
import Derived.Test.YtlpmbmilnoncdaaRows
import Derived.ProofKit
import Derived.OpenShut
import Derived.ShutString
import Derived.ChangeOld
import Derived.Below
import Derived.JoinedCond
/- A function of the program computes what its Lean function does. Written by program. -/
namespace Go.Proofs.Ytlpmbmilnoncdaa
open Go.RowKit
set_option maxRecDepth 100000
set_option maxHeartbeats 40000000
set_option linter.unusedVariables false
theorem lines_Unstuff_run (a0 : List UInt8) (r : (List UInt8) × Int × Bool × TFault) (hr : lines_Unstuff a0 = some r) : Run Try.prog 25 [.l cU a0] (.tup [.l cU r.1, .i r.2.1, .bo r.2.2.1, .agg [.i r.2.2.2.Code, .i r.2.2.2.Index]]) := by
  unfold lines_Unstuff at hr
  refine run_of_awp (fn := Try.f25) ⟨Try.func25, rfl, by kernel_rfl⟩ rfl (fun _ => rfl) fun g0 hg => ?_
  refine awp_seq ?_
  refine awp_region ?_
  refine awpl_op rfl (opTo_alloc (k := 2) 2 rfl ty_s_uint8 (.inl rfl) rfl rfl rfl) ?_
  refine awpl_op rfl (opTo_alloc (k := 3) 3 rfl ty_int (.inl rfl) rfl rfl rfl) ?_
  refine awpl_op rfl (opTo_alloc (k := 4) 4 rfl ty_bool (.inl rfl) rfl rfl rfl) ?_
  refine awpl_op rfl (opTo_alloc (k := 5) 5 rfl ty_api_Fault (.inr ⟨rfl, rfl⟩) rfl rfl rfl) ?_
  refine awpl_nil ?_
  refine kthen_normal ?_
  refine awp_seq ?_
  refine awp_seq ?_
  refine awp_region ?_
  refine awpl_op rfl (opTo_q (d := 12) rfl rfl ev_move) ?_
  refine awpl_op rfl (opTo_q (d := 13) rfl rfl (ev_llen (f := cU) rfl ty_s_uint8.u)) ?_
  refine awpl_op rfl (opTo_q (d := 14) rfl rfl (ev_gtr rfl rfl)) ?_
  refine awpl_nil ?_
  refine kthen_normal ?_
  refine awp_cond rfl (fun c1 => ?_) (fun c1 => ?_)
  · replace hr := cond_t c1 hr
    refine awp_seq ?_
    refine awp_region ?_
    obtain ⟨v2, h3, hr⟩ := bind_some hr
    refine awpl_op rfl (opTo_call (k := 15) (basic_Fault_run 1 ((-1)) v2 h3) rfl rfl) ?_
    refine awpl_op rfl (opTo_store rfl rfl rfl ty_s_uint8 rfl rfl) ?_
    refine awpl_op rfl (opTo_store rfl rfl rfl ty_int rfl rfl) ?_
    refine awpl_op rfl (opTo_store rfl rfl rfl ty_bool rfl rfl) ?_
    refine awpl_op rfl (opTo_store rfl rfl rfl ty_api_Fault rfl rfl) ?_
    refine awpl_nil ?_
    refine kthen_normal ?_
    refine awp_ret ?_
    refine kthen_ret ?_
    cases hr
    exact kret' rfl (.cons (res_cell rfl rfl ty_s_uint8 rfl rfl) (.cons (res_cell rfl rfl ty_int rfl rfl) (.cons (res_cell rfl rfl ty_bool rfl rfl) (.cons (res_cellN rfl rfl ty_api_Fault rfl rfl) .nil)))) rfl
  · replace hr := cond_f c1 hr
    refine awp_skip ?_
    refine kthen_normal ?_
    refine awp_seq ?_
    refine awp_region ?_
    refine awpl_op rfl (opTo_alloc (k := 6) 6 rfl ty_s_uint8 (.inl rfl) rfl rfl rfl) ?_
    refine awpl_adoptC 1006 (o := 6) (j := 0) 5 1 rfl rfl rfl rfl ?_
    refine awpl_nil ?_
    refine kthen_normal ?_
    refine awp_seq ?_
    refine awp_region ?_
    refine awpl_op rfl (opTo_alloc (k := 7) 7 rfl ty_int (.inl rfl) rfl rfl rfl) ?_
    refine awpl_op rfl (opTo_store rfl rfl rfl ty_int rfl rfl) ?_
    refine awpl_nil ?_
    refine kthen_normal ?_
    refine awp_seq ?_
    refine awp_seq ?_
    refine awp_region ?_
    refine awpl_op rfl (opTo_q (d := 16) rfl rfl ev_move) ?_
    refine awpl_inl (fn := Try.f40) (args := [.l cU a0]) 900000 999999 [(0, .l cU a0), (2, .ptr 2 0), (3, .ptr 3 0), (4, .ptr 4 0), (5, .ptr 5 0), (6, .ptr 6 0), (7, .ptr 7 0)] (wanted_plain rfl) rfl ⟨Try.func40, rfl, by kernel_rfl⟩ rfl rfl (.cons rfl (.cons rfl (.cons rfl (.cons rfl (.cons rfl (.cons rfl (.cons rfl .nil))))))) fun T9 ds9 hT9 => ?_
    refine awp_seq ?_
    refine awp_region ?_
    refine awpl_op rfl (opTo_box (k := 1) 1 rfl rfl rfl rfl rfl) ?_
    refine awpl_op rfl (opTo_q (d := 2) rfl rfl ev_assign) ?_
    refine awpl_nil ?_
    refine kthen_normal ?_
    refine awp_seq ?_
    refine awp_region ?_
    refine awpl_op rfl (opTo_q (d := 3) rfl rfl (ev_makeFunc rfl rfl)) ?_
    refine awpl_op rfl (opTo_q (d := 2) rfl rfl ev_assign) ?_
    refine awpl_nil ?_
    refine kthen_normal ?_
    refine awp_ret ?_
    refine inlK (cs := [.fn (.func 57) [] [.ptr 1 0]]) (fr'' := [(0, .l cU a0), (2, .ptr 2 0), (3, .ptr 3 0), (4, .ptr 4 0), (5, .ptr 5 0), (6, .ptr 6 0), (7, .ptr 7 0)]) (σ'' := [(1, .cells [.l cU a0]), (7, .cells [.i 0]), (1006, .row 5 false 1 (List.map cU (([] : List UInt8)))), (6, .cells [.hs 1006 0]), (5, .cells [.i 0, .i 0]), (4, .cells [.bo false]), (3, .cells [.i 0]), (2, .cells [.pv (.sl (some true) [])])]) (.inl rfl) frLe_refl stoLe_refl (.cons (res_tmp rfl) .nil) (.cons rfl (.cons rfl (.cons rfl (.cons rfl (.cons rfl (.cons rfl (.cons rfl .nil))))))) rfl (stoLe_cons rfl (stoLe_cons rfl (stoLe_cons rfl (stoLe_cons rfl (stoLe_cons rfl (stoLe_cons rfl (stoLe_cons rfl (stoLe_cons rfl stoLe_nil)))))))) ?_
    refine awpl_nil ?_
    refine kthen_normal ?_
    refine awp_block ?_
    refine awp_rangef (fn0 := Try.f57) 1000000 1099998 1099999 [(0, .l cU a0), (2, .ptr 2 0), (3, .ptr 3 0), (4, .ptr 4 0), (5, .ptr 5 0), (6, .ptr 6 0), (7, .ptr 7 0), (17, .fn (.func 57) [] [.ptr 1 0])] rfl rfl rfl ⟨Try.func57, rfl, by kernel_rfl⟩ rfl rfl rfl rfl rfl (.cons rfl (.cons rfl (.cons rfl (.cons rfl (.cons rfl (.cons rfl (.cons rfl (.cons rfl .nil)))))))) fun T10 b10 L10 ds10 hT10 hLs10 hLp10 hLt10 hLq10 hLa10 hLb10 => ?_
    refine awp_seq ?_
    refine awp_region ?_
    refine awpl_op rfl (opTo_q (d := 3) rfl rfl ev_assign) ?_
    refine awpl_nil ?_
    refine kthen_normal ?_
    refine awp_block ?_
    obtain ⟨o7, hl, hr⟩ := bind_some hr
    refine awp_loop (lines_Unstuff_l1 a0) (fun s4 => [(0, .fn (.yield b10) [] []), (1, .ptr 1 0), (3, .i s4.1)]) (fun s4 => [(1099999, .sus g0.w.heap.size ds10), (1099998, .lp b10 L10), (1000000, .hold (.l cU a0) (T10.getD 0 undef)), (1000002, .hold (.ptr 2 0) (T10.getD 2 undef)), (1000003, .hold (.ptr 3 0) (T10.getD 3 undef)), (1000004, .hold (.ptr 4 0) (T10.getD 4 undef)), (1000005, .hold (.ptr 5 0) (T10.getD 5 undef)), (1000006, .hold (.ptr 6 0) (T10.getD 6 undef)), (1000007, .hold (.ptr 7 0) (T10.getD 7 undef)), (1000017, .hold (.fn (.func 57) [] [.ptr 1 0]) (T10.getD 17 undef)), (1, .cells [.l cU a0]), (7, .cells [.i s4.2.1]), (1006, .row 5 false 1 (List.map cU s4.2.2)), (6, .cells [.hs 1006 0]), (5, .cells [.i 0, .i 0]), (4, .cells [.bo false]), (3, .cells [.i 0]), (2, .cells [.l cU ([])])]) (fun o => match o with | .inl b5 => At .ret [] [(1099999, .sus g0.w.heap.size ds10), (1099998, .lp b10 L10), (1000000, .hold (.l cU a0) (T10.getD 0 undef)), (1000002, .hold (.ptr 2 0) (T10.getD 2 undef)), (1000003, .hold (.ptr 3 0) (T10.getD 3 undef)), (1000004, .hold (.ptr 4 0) (T10.getD 4 undef)), (1000005, .hold (.ptr 5 0) (T10.getD 5 undef)), (1000006, .hold (.ptr 6 0) (T10.getD 6 undef)), (1000007, .hold (.ptr 7 0) (T10.getD 7 undef)), (1000017, .hold (.fn (.func 57) [] [.ptr 1 0]) (T10.getD 17 undef)), (1, .cells [.l cU a0]), (7, .cells [.i b5.1]), (1006, .row 5 false 1 (List.map cU b5.2)), (6, .cells [.hs 1006 0]), (5, .cells [.i 0, .i 0]), (4, .cells [.bo false]), (3, .cells [.i 0]), (2, .cells [.l cU ([])])] | .inr b6 => At .ret [] [(1099999, .sus g0.w.heap.size ds10), (1099998, .lp b10 ((stop L10 .ret))), (1000000, .hold (.l cU a0) (T10.getD 0 undef)), (1000002, .hold (.ptr 2 0) (T10.getD 2 undef)), (1000003, .hold (.ptr 3 0) (T10.getD 3 undef)), (1000004, .hold (.ptr 4 0) (T10.getD 4 undef)), (1000005, .hold (.ptr 5 0) (T10.getD 5 undef)), (1000006, .hold (.ptr 6 0) (T10.getD 6 undef)), (1000007, .hold (.ptr 7 0) (T10.getD 7 undef)), (1000017, .hold (.fn (.func 57) [] [.ptr 1 0]) (T10.getD 17 undef)), (1, .cells [.l cU a0]), (7, .cells [.i b6.1]), (1006, .row 5 false 1 (List.map cU b6.2.1)), (6, .cells [.hs 1006 0]), (5, .cells [.i b6.2.2.1, .i b6.2.2.2.1]), (4, .cells [.bo b6.2.2.2.2.1]), (3, .cells [.i b6.2.2.2.2.2.1]), (2, .cells [.l cU b6.2.2.2.2.2.2])]) ?_ ((0, 0, ([] : List UInt8))) hl (frLe_cons rfl (frLe_cons rfl (frLe_cons rfl frLe_nil))) (stoLe_cons rfl (stoLe_cons rfl (stoLe_cons rfl (stoLe_cons rfl (stoLe_cons rfl (stoLe_cons rfl (stoLe_cons rfl (stoLe_cons rfl (stoLe_cons rfl (stoLe_cons rfl (stoLe_cons rfl (stoLe_cons rfl (stoLe_cons rfl (stoLe_cons rfl (stoLe_cons rfl (stoLe_cons rfl (stoLe_cons rfl (stoLe_weak rfl rfl stoLe_nil)))))))))))))))))) ?_
    · intro s4 x8 hr
      unfold lines_Unstuff_l1 at hr
      refine awp_block ?_
      refine awp_seq ?_
      refine awp_region ?_
      refine awpl_op rfl (opTo_q (d := 5) rfl rfl (ev_load rfl rfl ty_s_uint8 rfl rfl)) ?_
      refine awpl_op rfl (opTo_q (d := 6) rfl rfl ev_move) ?_
      obtain ⟨v9, h10, hr⟩ := bind_some hr
      refine awpl_op rfl (opTo_q (d := 7) rfl rfl (ev_cutL (F := cU) rfl rfl ty_s_uint8 ty_uint8 (fun _ => rfl) h10)) ?_
      refine awpl_litconv rfl (opGN_lit (F := cU) (l := ([(13 : UInt8), (10 : UInt8)] : List UInt8)) ty_s_uint8 ty_uint8 rfl (fun _ => rfl) rfl rfl) ty_s_uint8 ty_uint8 (wanted_plain rfl) (wanted_plain rfl) rfl ?_
      obtain ⟨v11, h12, hr⟩ := bind_some hr
      refine awpl_op rfl (opTo_call (k := 10) (bytes_Index_run v9 (([(13 : UInt8), (10 : UInt8)] : List UInt8)) v11 h12) rfl rfl) ?_
      refine awpl_op rfl (opTo_q (d := 4) rfl rfl ev_assign) ?_
      refine awpl_nil ?_
      refine kthen_normal ?_
      refine awp_seq ?_
      refine awp_seq ?_
      refine awp_region ?_
      refine awpl_op rfl (opTo_q (d := 11) rfl rfl ev_move) ?_
      refine awpl_op rfl (opTo_q (d := 12) rfl rfl (ev_lss rfl rfl)) ?_
      refine awpl_op rfl (opTo_q (d := 13) rfl rfl ev_move) ?_
      refine bool_split (decide (v11 < 0)) (fun c13 => ?_) (fun c13 => ?_)
      · replace hr := cond_t c13 hr
        refine awpl_no (d := 13) rfl rfl rfl c13 ?_
        refine awpl_no (d := 13) rfl rfl rfl c13 ?_
        refine awpl_no (d := 13) rfl rfl rfl c13 ?_
        refine awpl_no (d := 13) rfl rfl rfl c13 ?_
        refine awpl_no (d := 13) rfl rfl rfl c13 ?_
        refine awpl_no (d := 13) rfl rfl rfl c13 ?_
        refine awpl_no (d := 13) rfl rfl rfl c13 ?_
        refine awpl_no (d := 13) rfl rfl rfl c13 ?_
        refine awpl_no (d := 13) rfl rfl rfl c13 ?_
        refine awpl_no (d := 13) rfl rfl rfl c13 ?_
        refine awpl_no (d := 13) rfl rfl rfl c13 ?_
        refine awpl_no (d := 13) rfl rfl rfl c13 ?_
        refine awpl_no (d := 13) rfl rfl rfl c13 ?_
        refine awpl_op rfl (opTo_q (d := 27) rfl rfl (ev_pick_t rfl c13)) ?_
        refine awpl_nil ?_
        refine kthen_normal ?_
        refine awp_cond (t := true) rfl (fun _ => ?_) (fun h => nomatch h)
        refine awp_ret ?_
        refine kthen_ret ?_
        refine kblock_ret ?_
        cases hr
        exact ⟨by simp, rfl, frLe_nil, (stoLe_cons rfl (stoLe_cons rfl (stoLe_cons rfl (stoLe_cons rfl (stoLe_cons rfl (stoLe_cons rfl (stoLe_cons rfl (stoLe_cons rfl (stoLe_cons rfl (stoLe_cons rfl (stoLe_cons rfl (stoLe_cons rfl (stoLe_cons rfl (stoLe_cons rfl (stoLe_cons rfl (stoLe_cons rfl (stoLe_cons rfl (stoLe_cons rfl stoLe_nil))))))))))))))))))⟩
      · replace hr := cond_f c13 hr
        refine awpl_yes (d := 13) rfl rfl rfl c13 (opTo_q (d := 14) rfl rfl ev_move) ?_
        refine awpl_yes (d := 13) rfl rfl rfl c13 (opTo_q (d := 15) rfl rfl (ev_load rfl rfl ty_s_uint8 rfl rfl)) ?_
        refine awpl_yes (d := 13) rfl rfl rfl c13 (opTo_q (d := 16) rfl rfl ev_move) ?_
        refine awpl_yes (d := 13) rfl rfl rfl c13 (opTo_q (d := 17) rfl rfl ev_move) ?_
        refine awpl_yes (d := 13) rfl rfl rfl c13 (opTo_q (d := 18) rfl rfl ev_move) ?_
        refine awpl_yes (d := 13) rfl rfl rfl c13 (opTo_q (d := 19) rfl rfl (ev_add rfl rfl)) ?_
        obtain ⟨v14, h15, hr⟩ := bind_some hr
        refine awpl_yes (d := 13) rfl rfl rfl c13 (opTo_q (d := 20) rfl rfl (ev_cutLH (F := cU) rfl rfl rfl ty_s_uint8 ty_uint8 (fun _ => rfl) h15)) ?_
        refine awpl_yes (d := 13) rfl rfl rfl c13 (opTo_q (d := 21) rfl rfl ev_move) ?_
        refine awpl_yes (d := 13) rfl rfl rfl c13 (opTo_q (d := 22) rfl rfl ev_move) ?_
        refine awpl_yes (d := 13) rfl rfl rfl c13 (opTo_q (d := 23) rfl rfl (ev_add rfl rfl)) ?_
        refine awpl_yes (d := 13) rfl rfl rfl c13 (opTo_q (d := 24) rfl rfl (ev_add rfl rfl)) ?_
        refine awpl_yieldf (ps := [18, 19]) (args := [.l cU v14, .i ((w64 ((w64 (s4.1 + v11)) + 2)))]) 1000000 1600000 1099998 1699999 [(0, .l cU a0), (2, .ptr 2 0), (3, .ptr 3 0), (4, .ptr 4 0), (5, .ptr 5 0), (6, .ptr 6 0), (7, .ptr 7 0), (17, .fn (.func 57) [] [.ptr 1 0])] [(0, .fn (.yield b10) [] []), (1, .ptr 1 0), (3, .i s4.1), (4, .i v11), (13, .bo (decide (v11 < 0))), (14, .fn (.yield b10) [] []), (15, .l cU a0), (16, .i s4.1), (17, .i s4.1), (18, .i v11), (19, .i ((w64 (s4.1 + v11)))), (20, .l cU v14), (21, .i s4.1), (22, .i v11), (23, .i ((w64 (s4.1 + v11)))), (24, .i ((w64 ((w64 (s4.1 + v11)) + 2))))] (wanted_yes (d := 13) rfl rfl rfl c13) rfl rfl hLs10 hLp10 hLt10 hLq10 hLa10 hLb10 hT10 rfl rfl rfl rfl (.cons rfl (.cons rfl (.cons rfl (.cons rfl (.cons rfl (.cons rfl (.cons rfl (.cons rfl (.cons rfl (.cons rfl (.cons rfl (.cons rfl (.cons rfl (.cons rfl (.cons rfl (.cons rfl .nil)))))))))))))))) (.cons rfl (.cons rfl (.cons rfl (.cons rfl (.cons rfl (.cons rfl (.cons rfl (.cons rfl .nil)))))))) fun T16 ds16 hT16 => ?_
        refine awp_seq ?_
        refine awp_region ?_
        refine awpl_op rfl (opTo_q (d := 8) rfl rfl ev_assign) ?_
        refine awpl_nil ?_
        refine kthen_normal ?_
        refine awp_region ?_
        refine awpl_op rfl (opTo_q (d := 9) rfl rfl ev_assign) ?_
        refine awpl_nil ?_
        refine asgK frLe_refl stoLe_refl rfl ?_
        refine awp_block ?_
        refine awp_seq ?_
        refine awp_region ?_
        refine awpl_op rfl (opTo_q (d := 20) rfl rfl ev_move) ?_
        refine awpl_op rfl (opTo_store rfl rfl rfl ty_int rfl rfl) ?_
        refine awpl_nil ?_
        refine kthen_normal ?_
        refine awp_seq ?_
        refine awp_seq ?_
        refine awp_region ?_
        refine awpl_op rfl (opTo_q (d := 21) rfl rfl ev_move) ?_
        refine awpl_op rfl (opTo_q (d := 22) rfl rfl (ev_bytes2s rfl ty_s_uint8 ty_uint8 ty_string)) ?_
        refine awpl_op rfl (opTo_q (d := 23) rfl rfl (ev_seql (a := v14) (b := ([46] : Str)) rfl rfl)) ?_
        refine awpl_nil ?_
        refine kthen_normal ?_
        refine awp_cond rfl (fun c16 => ?_) (fun c16 => ?_)
        · replace hr := cond_t c16 hr
          refine awp_seq ?_
          refine awp_seq ?_
          refine awp_region ?_
          refine awpl_op rfl (opTo_q (d := 24) rfl rfl (ev_load rfl rfl ty_s_uint8 rfl rfl)) ?_
          refine awpl_op rfl (opTo_q (d := 25) rfl rfl (ev_hlen (F := cU) rfl rfl ty_s_uint8.u)) ?_
          refine awpl_op rfl (opTo_q (d := 26) rfl rfl (ev_gtr rfl rfl)) ?_
          refine awpl_nil ?_
          refine kthen_normal ?_
          refine awp_cond rfl (fun c17 => ?_) (fun c17 => ?_)
          · replace hr := cond_t c17 hr
            refine awp_seq ?_
            refine awp_region ?_
            obtain ⟨v18, h19, hr⟩ := bind_some hr
            refine awpl_op rfl (opTo_call (k := 27) (basic_Fault_run 1 ((-2)) v18 h19) rfl rfl) ?_
            refine awpl_op rfl (opTo_store rfl rfl rfl ty_s_uint8 rfl rfl) ?_
            refine awpl_op rfl (opTo_store rfl rfl rfl ty_int rfl rfl) ?_
            refine awpl_op rfl (opTo_store rfl rfl rfl ty_bool rfl rfl) ?_
            refine awpl_op rfl (opTo_store rfl rfl rfl ty_api_Fault rfl rfl) ?_
            refine awpl_nil ?_
            refine kthen_normal ?_
            refine awp_ret ?_
            refine kthen_ret ?_
            refine kthen_ret ?_
            refine kblock_ret ?_
            refine rndK (fr'' := [(0, .fn (.yield b10) [] []), (1, .ptr 1 0), (3, .i s4.1), (4, .i v11), (13, .bo (decide (v11 < 0))), (14, .fn (.yield b10) [] []), (15, .l cU a0), (16, .i s4.1), (17, .i s4.1), (18, .i v11), (19, .i ((w64 (s4.1 + v11)))), (20, .l cU v14), (21, .i s4.1), (22, .i v11), (23, .i ((w64 (s4.1 + v11)))), (24, .i ((w64 ((w64 (s4.1 + v11)) + 2))))]) (σ'' := [(1099999, .sus g0.w.heap.size ds10), (1099998, .lp b10 ((stop L10 .ret))), (1000000, .hold (.l cU a0) (T10.getD 0 undef)), (1000002, .hold (.ptr 2 0) (T10.getD 2 undef)), (1000003, .hold (.ptr 3 0) (T10.getD 3 undef)), (1000004, .hold (.ptr 4 0) (T10.getD 4 undef)), (1000005, .hold (.ptr 5 0) (T10.getD 5 undef)), (1000006, .hold (.ptr 6 0) (T10.getD 6 undef)), (1000007, .hold (.ptr 7 0) (T10.getD 7 undef)), (1000017, .hold (.fn (.func 57) [] [.ptr 1 0]) (T10.getD 17 undef)), (1, .cells [.l cU a0]), (7, .cells [.i ((w64 ((w64 (s4.1 + v11)) + 2)))]), (1006, .row 5 false 1 (List.map cU s4.2.2)), (6, .cells [.hs 1006 0]), (5, .cells [.i v18.Code, .i v18.Index]), (4, .cells [.bo false]), (3, .cells [.i 0]), (2, .cells [.pv (.sl (some true) [])])]) .ret stoLe_refl rfl (.cons rfl (.cons rfl (.cons rfl (.cons rfl (.cons rfl (.cons rfl (.cons rfl (.cons rfl (.cons rfl (.cons rfl (.cons rfl (.cons rfl (.cons rfl (.cons rfl (.cons rfl (.cons rfl .nil)))))))))))))))) rfl (stoLe_cons rfl (stoLe_cons rfl (stoLe_cons rfl (stoLe_cons rfl (stoLe_cons rfl (stoLe_cons rfl (stoLe_cons rfl (stoLe_cons rfl (stoLe_cons rfl (stoLe_cons rfl (stoLe_cons rfl (stoLe_cons rfl (stoLe_cons rfl (stoLe_cons rfl (stoLe_cons rfl (stoLe_cons rfl (stoLe_cons rfl (stoLe_cons rfl stoLe_nil)))))))))))))))))) ?_
            refine awpl_yes (d := 13) rfl rfl rfl c13 (opTo_q (d := 26) rfl rfl (ev_not rfl)) ?_
            refine awpl_op rfl (opTo_q (d := 27) rfl rfl (ev_pick_f rfl c13)) ?_
            refine awpl_nil ?_
            refine kthen_normal ?_
            refine awp_cond (t := true) rfl (fun _ => ?_) (fun h => nomatch h)
            refine awp_ret ?_
            refine kthen_ret ?_
            refine kblock_ret ?_
            cases hr
            exact ⟨by simp, rfl, frLe_nil, (stoLe_cons rfl (stoLe_cons rfl (stoLe_cons rfl (stoLe_cons rfl (stoLe_cons rfl (stoLe_cons rfl (stoLe_cons rfl (stoLe_cons rfl (stoLe_cons rfl (stoLe_cons rfl (stoLe_cons rfl (stoLe_cons rfl (stoLe_cons rfl (stoLe_cons rfl (stoLe_cons rfl (stoLe_cons rfl (stoLe_cons rfl (stoLe_weak rfl rfl stoLe_nil))))))))))))))))))⟩
          · replace hr := cond_f c17 hr
            refine awp_skip ?_
            refine kthen_normal ?_
            refine awp_seq ?_
            obtain ⟨v20, h21, hr⟩ := bind_some hr
            refine awp_explore [([false, false, false, false, false, false, false], [(2, .ptr 2 0), (3, .ptr 3 0), (4, .ptr 4 0), (5, .ptr 5 0), (6, .ptr 6 0), (9, .i ((w64 ((w64 (s4.1 + v11)) + 2))))], [(1699999, .sus g0.w.heap.size ds16), (1600000, .hold (.fn (.yield b10) [] []) (T16.getD 0 undef)), (1600001, .hold (.ptr 1 0) (T16.getD 1 undef)), (1600003, .hold (.i s4.1) (T16.getD 3 undef)), (1600004, .hold (.i v11) (T16.getD 4 undef)), (1600013, .hold (.bo (decide (v11 < 0))) (T16.getD 13 undef)), (1600014, .hold (.fn (.yield b10) [] []) (T16.getD 14 undef)), (1600015, .hold (.l cU a0) (T16.getD 15 undef)), (1600016, .hold (.i s4.1) (T16.getD 16 undef)), (1600017, .hold (.i s4.1) (T16.getD 17 undef)), (1600018, .hold (.i v11) (T16.getD 18 undef)), (1600019, .hold (.i ((w64 (s4.1 + v11)))) (T16.getD 19 undef)), (1600020, .hold (.l cU v14) (T16.getD 20 undef)), (1600021, .hold (.i s4.1) (T16.getD 21 undef)), (1600022, .hold (.i v11) (T16.getD 22 undef)), (1600023, .hold (.i ((w64 (s4.1 + v11)))) (T16.getD 23 undef)), (1600024, .hold (.i ((w64 ((w64 (s4.1 + v11)) + 2)))) (T16.getD 24 undef)), (1099999, .sus g0.w.heap.size ds10), (1099998, .lp b10 ((busy L10))), (1000000, .hold (.l cU a0) (T10.getD 0 undef)), (1000002, .hold (.ptr 2 0) (T10.getD 2 undef)), (1000003, .hold (.ptr 3 0) (T10.getD 3 undef)), (1000004, .hold (.ptr 4 0) (T10.getD 4 undef)), (1000005, .hold (.ptr 5 0) (T10.getD 5 undef)), (1000006, .hold (.ptr 6 0) (T10.getD 6 undef)), (1000007, .hold (.ptr 7 0) (T10.getD 7 undef)), (1000017, .hold (.fn (.func 57) [] [.ptr 1 0]) (T10.getD 17 undef)), (1, .cells [.l cU a0]), (7, .cells [.i ((w64 ((w64 (s4.1 + v11)) + 2)))]), (1006, .row 5 false 1 (List.map cU s4.2.2)), (6, .cells [.hs 1006 0]), (5, .cells [.i 0, .i 0]), (4, .cells [.bo false]), (3, .cells [.i 0]), (2, .cells [.l cU ([])])]), ([true, false, false, false, false, false, false], [(2, .ptr 2 0), (3, .ptr 3 0), (4, .ptr 4 0), (5, .ptr 5 0), (6, .ptr 6 0), (9, .i ((w64 ((w64 (s4.1 + v11)) + 2)))), (28, .hs 1006 0)], [(1699999, .sus g0.w.heap.size ds16), (1600000, .hold (.fn (.yield b10) [] []) (T16.getD 0 undef)), (1600001, .hold (.ptr 1 0) (T16.getD 1 undef)), (1600003, .hold (.i s4.1) (T16.getD 3 undef)), (1600004, .hold (.i v11) (T16.getD 4 undef)), (1600013, .hold (.bo (decide (v11 < 0))) (T16.getD 13 undef)), (1600014, .hold (.fn (.yield b10) [] []) (T16.getD 14 undef)), (1600015, .hold (.l cU a0) (T16.getD 15 undef)), (1600016, .hold (.i s4.1) (T16.getD 16 undef)), (1600017, .hold (.i s4.1) (T16.getD 17 undef)), (1600018, .hold (.i v11) (T16.getD 18 undef)), (1600019, .hold (.i ((w64 (s4.1 + v11)))) (T16.getD 19 undef)), (1600020, .hold (.l cU v14) (T16.getD 20 undef)), (1600021, .hold (.i s4.1) (T16.getD 21 undef)), (1600022, .hold (.i v11) (T16.getD 22 undef)), (1600023, .hold (.i ((w64 (s4.1 + v11)))) (T16.getD 23 undef)), (1600024, .hold (.i ((w64 ((w64 (s4.1 + v11)) + 2)))) (T16.getD 24 undef)), (1099999, .sus g0.w.heap.size ds10), (1099998, .lp b10 ((busy L10))), (1000000, .hold (.l cU a0) (T10.getD 0 undef)), (1000002, .hold (.ptr 2 0) (T10.getD 2 undef)), (1000003, .hold (.ptr 3 0) (T10.getD 3 undef)), (1000004, .hold (.ptr 4 0) (T10.getD 4 undef)), (1000005, .hold (.ptr 5 0) (T10.getD 5 undef)), (1000006, .hold (.ptr 6 0) (T10.getD 6 undef)), (1000007, .hold (.ptr 7 0) (T10.getD 7 undef)), (1000017, .hold (.fn (.func 57) [] [.ptr 1 0]) (T10.getD 17 undef)), (1, .cells [.l cU a0]), (7, .cells [.i ((w64 ((w64 (s4.1 + v11)) + 2)))]), (1006, .row 5 false 1 (List.map cU s4.2.2)), (6, .cells [.hs 1006 0]), (5, .cells [.i 0, .i 0]), (4, .cells [.bo false]), (3, .cells [.i 0]), (2, .cells [.l cU ([])])]), ([false, true, false, false, false, false, false], [(2, .ptr 2 0), (3, .ptr 3 0), (4, .ptr 4 0), (5, .ptr 5 0), (6, .ptr 6 0), (9, .i ((w64 ((w64 (s4.1 + v11)) + 2)))), (29, .i ((w64 ((w64 (s4.1 + v11)) + 2))))], [(1699999, .sus g0.w.heap.size ds16), (1600000, .hold (.fn (.yield b10) [] []) (T16.getD 0 undef)), (1600001, .hold (.ptr 1 0) (T16.getD 1 undef)), (1600003, .hold (.i s4.1) (T16.getD 3 undef)), (1600004, .hold (.i v11) (T16.getD 4 undef)), (1600013, .hold (.bo (decide (v11 < 0))) (T16.getD 13 undef)), (1600014, .hold (.fn (.yield b10) [] []) (T16.getD 14 undef)), (1600015, .hold (.l cU a0) (T16.getD 15 undef)), (1600016, .hold (.i s4.1) (T16.getD 16 undef)), (1600017, .hold (.i s4.1) (T16.getD 17 undef)), (1600018, .hold (.i v11) (T16.getD 18 undef)), (1600019, .hold (.i ((w64 (s4.1 + v11)))) (T16.getD 19 undef)), (1600020, .hold (.l cU v14) (T16.getD 20 undef)), (1600021, .hold (.i s4.1) (T16.getD 21 undef)), (1600022, .hold (.i v11) (T16.getD 22 undef)), (1600023, .hold (.i ((w64 (s4.1 + v11)))) (T16.getD 23 undef)), (1600024, .hold (.i ((w64 ((w64 (s4.1 + v11)) + 2)))) (T16.getD 24 undef)), (1099999, .sus g0.w.heap.size ds10), (1099998, .lp b10 ((busy L10))), (1000000, .hold (.l cU a0) (T10.getD 0 undef)), (1000002, .hold (.ptr 2 0) (T10.getD 2 undef)), (1000003, .hold (.ptr 3 0) (T10.getD 3 undef)), (1000004, .hold (.ptr 4 0) (T10.getD 4 undef)), (1000005, .hold (.ptr 5 0) (T10.getD 5 undef)), (1000006, .hold (.ptr 6 0) (T10.getD 6 undef)), (1000007, .hold (.ptr 7 0) (T10.getD 7 undef)), (1000017, .hold (.fn (.func 57) [] [.ptr 1 0]) (T10.getD 17 undef)), (1, .cells [.l cU a0]), (7, .cells [.i ((w64 ((w64 (s4.1 + v11)) + 2)))]), (1006, .row 5 false 1 (List.map cU s4.2.2)), (6, .cells [.hs 1006 0]), (5, .cells [.i 0, .i 0]), (4, .cells [.bo false]), (3, .cells [.i 0]), (2, .cells [.l cU ([])])]), ([false, false, true, false, false, false, false], [(2, .ptr 2 0), (3, .ptr 3 0), (4, .ptr 4 0), (5, .ptr 5 0), (6, .ptr 6 0), (9, .i ((w64 ((w64 (s4.1 + v11)) + 2)))), (30, .agg [.i v20.Code, .i v20.Index])], [(1699999, .sus g0.w.heap.size ds16), (1600000, .hold (.fn (.yield b10) [] []) (T16.getD 0 undef)), (1600001, .hold (.ptr 1 0) (T16.getD 1 undef)), (1600003, .hold (.i s4.1) (T16.getD 3 undef)), (1600004, .hold (.i v11) (T16.getD 4 undef)), (1600013, .hold (.bo (decide (v11 < 0))) (T16.getD 13 undef)), (1600014, .hold (.fn (.yield b10) [] []) (T16.getD 14 undef)), (1600015, .hold (.l cU a0) (T16.getD 15 undef)), (1600016, .hold (.i s4.1) (T16.getD 16 undef)), (1600017, .hold (.i s4.1) (T16.getD 17 undef)), (1600018, .hold (.i v11) (T16.getD 18 undef)), (1600019, .hold (.i ((w64 (s4.1 + v11)))) (T16.getD 19 undef)), (1600020, .hold (.l cU v14) (T16.getD 20 undef)), (1600021, .hold (.i s4.1) (T16.getD 21 undef)), (1600022, .hold (.i v11) (T16.getD 22 undef)), (1600023, .hold (.i ((w64 (s4.1 + v11)))) (T16.getD 23 undef)), (1600024, .hold (.i ((w64 ((w64 (s4.1 + v11)) + 2)))) (T16.getD 24 undef)), (1099999, .sus g0.w.heap.size ds10), (1099998, .lp b10 ((busy L10))), (1000000, .hold (.l cU a0) (T10.getD 0 undef)), (1000002, .hold (.ptr 2 0) (T10.getD 2 undef)), (1000003, .hold (.ptr 3 0) (T10.getD 3 undef)), (1000004, .hold (.ptr 4 0) (T10.getD 4 undef)), (1000005, .hold (.ptr 5 0) (T10.getD 5 undef)), (1000006, .hold (.ptr 6 0) (T10.getD 6 undef)), (1000007, .hold (.ptr 7 0) (T10.getD 7 undef)), (1000017, .hold (.fn (.func 57) [] [.ptr 1 0]) (T10.getD 17 undef)), (1, .cells [.l cU a0]), (7, .cells [.i ((w64 ((w64 (s4.1 + v11)) + 2)))]), (1006, .row 5 false 1 (List.map cU s4.2.2)), (6, .cells [.hs 1006 0]), (5, .cells [.i 0, .i 0]), (4, .cells [.bo false]), (3, .cells [.i 0]), (2, .cells [.l cU ([])])]), ([true, true, false, false, false, false, false], [(2, .ptr 2 0), (3, .ptr 3 0), (4, .ptr 4 0), (5, .ptr 5 0), (6, .ptr 6 0), (9, .i ((w64 ((w64 (s4.1 + v11)) + 2)))), (28, .hs 1006 0), (29, .i ((w64 ((w64 (s4.1 + v11)) + 2))))], [(1699999, .sus g0.w.heap.size ds16), (1600000, .hold (.fn (.yield b10) [] []) (T16.getD 0 undef)), (1600001, .hold (.ptr 1 0) (T16.getD 1 undef)), (1600003, .hold (.i s4.1) (T16.getD 3 undef)), (1600004, .hold (.i v11) (T16.getD 4 undef)), (1600013, .hold (.bo (decide (v11 < 0))) (T16.getD 13 undef)), (1600014, .hold (.fn (.yield b10) [] []) (T16.getD 14 undef)), (1600015, .hold (.l cU a0) (T16.getD 15 undef)), (1600016, .hold (.i s4.1) (T16.getD 16 undef)), (1600017, .hold (.i s4.1) (T16.getD 17 undef)), (1600018, .hold (.i v11) (T16.getD 18 undef)), (1600019, .hold (.i ((w64 (s4.1 + v11)))) (T16.getD 19 undef)), (1600020, .hold (.l cU v14) (T16.getD 20 undef)), (1600021, .hold (.i s4.1) (T16.getD 21 undef)), (1600022, .hold (.i v11) (T16.getD 22 undef)), (1600023, .hold (.i ((w64 (s4.1 + v11)))) (T16.getD 23 undef)), (1600024, .hold (.i ((w64 ((w64 (s4.1 + v11)) + 2)))) (T16.getD 24 undef)), (1099999, .sus g0.w.heap.size ds10), (1099998, .lp b10 ((busy L10))), (1000000, .hold (.l cU a0) (T10.getD 0 undef)), (1000002, .hold (.ptr 2 0) (T10.getD 2 undef)), (1000003, .hold (.ptr 3 0) (T10.getD 3 undef)), (1000004, .hold (.ptr 4 0) (T10.getD 4 undef)), (1000005, .hold (.ptr 5 0) (T10.getD 5 undef)), (1000006, .hold (.ptr 6 0) (T10.getD 6 undef)), (1000007, .hold (.ptr 7 0) (T10.getD 7 undef)), (1000017, .hold (.fn (.func 57) [] [.ptr 1 0]) (T10.getD 17 undef)), (1, .cells [.l cU a0]), (7, .cells [.i ((w64 ((w64 (s4.1 + v11)) + 2)))]), (1006, .row 5 false 1 (List.map cU s4.2.2)), (6, .cells [.hs 1006 0]), (5, .cells [.i 0, .i 0]), (4, .cells [.bo false]), (3, .cells [.i 0]), (2, .cells [.l cU ([])])]), ([true, false, true, false, false, false, false], [(2, .ptr 2 0), (3, .ptr 3 0), (4, .ptr 4 0), (5, .ptr 5 0), (6, .ptr 6 0), (9, .i ((w64 ((w64 (s4.1 + v11)) + 2)))), (28, .hs 1006 0), (30, .agg [.i v20.Code, .i v20.Index])], [(1699999, .sus g0.w.heap.size ds16), (1600000, .hold (.fn (.yield b10) [] []) (T16.getD 0 undef)), (1600001, .hold (.ptr 1 0) (T16.getD 1 undef)), (1600003, .hold (.i s4.1) (T16.getD 3 undef)), (1600004, .hold (.i v11) (T16.getD 4 undef)), (1600013, .hold (.bo (decide (v11 < 0))) (T16.getD 13 undef)), (1600014, .hold (.fn (.yield b10) [] []) (T16.getD 14 undef)), (1600015, .hold (.l cU a0) (T16.getD 15 undef)), (1600016, .hold (.i s4.1) (T16.getD 16 undef)), (1600017, .hold (.i s4.1) (T16.getD 17 undef)), (1600018, .hold (.i v11) (T16.getD 18 undef)), (1600019, .hold (.i ((w64 (s4.1 + v11)))) (T16.getD 19 undef)), (1600020, .hold (.l cU v14) (T16.getD 20 undef)), (1600021, .hold (.i s4.1) (T16.getD 21 undef)), (1600022, .hold (.i v11) (T16.getD 22 undef)), (1600023, .hold (.i ((w64 (s4.1 + v11)))) (T16.getD 23 undef)), (1600024, .hold (.i ((w64 ((w64 (s4.1 + v11)) + 2)))) (T16.getD 24 undef)), (1099999, .sus g0.w.heap.size ds10), (1099998, .lp b10 ((busy L10))), (1000000, .hold (.l cU a0) (T10.getD 0 undef)), (1000002, .hold (.ptr 2 0) (T10.getD 2 undef)), (1000003, .hold (.ptr 3 0) (T10.getD 3 undef)), (1000004, .hold (.ptr 4 0) (T10.getD 4 undef)), (1000005, .hold (.ptr 5 0) (T10.getD 5 undef)), (1000006, .hold (.ptr 6 0) (T10.getD 6 undef)), (1000007, .hold (.ptr 7 0) (T10.getD 7 undef)), (1000017, .hold (.fn (.func 57) [] [.ptr 1 0]) (T10.getD 17 undef)), (1, .cells [.l cU a0]), (7, .cells [.i ((w64 ((w64 (s4.1 + v11)) + 2)))]), (1006, .row 5 false 1 (List.map cU s4.2.2)), (6, .cells [.hs 1006 0]), (5, .cells [.i 0, .i 0]), (4, .cells [.bo false]), (3, .cells [.i 0]), (2, .cells [.l cU ([])])]), ([false, true, true, false, false, false, false], [(2, .ptr 2 0), (3, .ptr 3 0), (4, .ptr 4 0), (5, .ptr 5 0), (6, .ptr 6 0), (9, .i ((w64 ((w64 (s4.1 + v11)) + 2)))), (29, .i ((w64 ((w64 (s4.1 + v11)) + 2)))), (30, .agg [.i v20.Code, .i v20.Index])], [(1699999, .sus g0.w.heap.size ds16), (1600000, .hold (.fn (.yield b10) [] []) (T16.getD 0 undef)), (1600001, .hold (.ptr 1 0) (T16.getD 1 undef)), (1600003, .hold (.i s4.1) (T16.getD 3 undef)), (1600004, .hold (.i v11) (T16.getD 4 undef)), (1600013, .hold (.bo (decide (v11 < 0))) (T16.getD 13 undef)), (1600014, .hold (.fn (.yield b10) [] []) (T16.getD 14 undef)), (1600015, .hold (.l cU a0) (T16.getD 15 undef)), (1600016, .hold (.i s4.1) (T16.getD 16 undef)), (1600017, .hold (.i s4.1) (T16.getD 17 undef)), (1600018, .hold (.i v11) (T16.getD 18 undef)), (1600019, .hold (.i ((w64 (s4.1 + v11)))) (T16.getD 19 undef)), (1600020, .hold (.l cU v14) (T16.getD 20 undef)), (1600021, .hold (.i s4.1) (T16.getD 21 undef)), (1600022, .hold (.i v11) (T16.getD 22 undef)), (1600023, .hold (.i ((w64 (s4.1 + v11)))) (T16.getD 23 undef)), (1600024, .hold (.i ((w64 ((w64 (s4.1 + v11)) + 2)))) (T16.getD 24 undef)), (1099999, .sus g0.w.heap.size ds10), (1099998, .lp b10 ((busy L10))), (1000000, .hold (.l cU a0) (T10.getD 0 undef)), (1000002, .hold (.ptr 2 0) (T10.getD 2 undef)), (1000003, .hold (.ptr 3 0) (T10.getD 3 undef)), (1000004, .hold (.ptr 4 0) (T10.getD 4 undef)), (1000005, .hold (.ptr 5 0) (T10.getD 5 undef)), (1000006, .hold (.ptr 6 0) (T10.getD 6 undef)), (1000007, .hold (.ptr 7 0) (T10.getD 7 undef)), (1000017, .hold (.fn (.func 57) [] [.ptr 1 0]) (T10.getD 17 undef)), (1, .cells [.l cU a0]), (7, .cells [.i ((w64 ((w64 (s4.1 + v11)) + 2)))]), (1006, .row 5 false 1 (List.map cU s4.2.2)), (6, .cells [.hs 1006 0]), (5, .cells [.i 0, .i 0]), (4, .cells [.bo false]), (3, .cells [.i 0]), (2, .cells [.l cU ([])])]), ([true, true, true, false, false, false, false], [(2, .ptr 2 0), (3, .ptr 3 0), (4, .ptr 4 0), (5, .ptr 5 0), (6, .ptr 6 0), (9, .i ((w64 ((w64 (s4.1 + v11)) + 2)))), (28, .hs 1006 0), (29, .i ((w64 ((w64 (s4.1 + v11)) + 2)))), (30, .agg [.i v20.Code, .i v20.Index])], [(1699999, .sus g0.w.heap.size ds16), (1600000, .hold (.fn (.yield b10) [] []) (T16.getD 0 undef)), (1600001, .hold (.ptr 1 0) (T16.getD 1 undef)), (1600003, .hold (.i s4.1) (T16.getD 3 undef)), (1600004, .hold (.i v11) (T16.getD 4 undef)), (1600013, .hold (.bo (decide (v11 < 0))) (T16.getD 13 undef)), (1600014, .hold (.fn (.yield b10) [] []) (T16.getD 14 undef)), (1600015, .hold (.l cU a0) (T16.getD 15 undef)), (1600016, .hold (.i s4.1) (T16.getD 16 undef)), (1600017, .hold (.i s4.1) (T16.getD 17 undef)), (1600018, .hold (.i v11) (T16.getD 18 undef)), (1600019, .hold (.i ((w64 (s4.1 + v11)))) (T16.getD 19 undef)), (1600020, .hold (.l cU v14) (T16.getD 20 undef)), (1600021, .hold (.i s4.1) (T16.getD 21 undef)), (1600022, .hold (.i v11) (T16.getD 22 undef)), (1600023, .hold (.i ((w64 (s4.1 + v11)))) (T16.getD 23 undef)), (1600024, .hold (.i ((w64 ((w64 (s4.1 + v11)) + 2)))) (T16.getD 24 undef)), (1099999, .sus g0.w.heap.size ds10), (1099998, .lp b10 ((busy L10))), (1000000, .hold (.l cU a0) (T10.getD 0 undef)), (1000002, .hold (.ptr 2 0) (T10.getD 2 undef)), (1000003, .hold (.ptr 3 0) (T10.getD 3 undef)), (1000004, .hold (.ptr 4 0) (T10.getD 4 undef)), (1000005, .hold (.ptr 5 0) (T10.getD 5 undef)), (1000006, .hold (.ptr 6 0) (T10.getD 6 undef)), (1000007, .hold (.ptr 7 0) (T10.getD 7 undef)), (1000017, .hold (.fn (.func 57) [] [.ptr 1 0]) (T10.getD 17 undef)), (1, .cells [.l cU a0]), (7, .cells [.i ((w64 ((w64 (s4.1 + v11)) + 2)))]), (1006, .row 5 false 1 (List.map cU s4.2.2)), (6, .cells [.hs 1006 0]), (5, .cells [.i 0, .i 0]), (4, .cells [.bo false]), (3, .cells [.i 0]), (2, .cells [.l cU ([])])]), ([true, false, true, true, false, false, false], [(2, .ptr 2 0), (3, .ptr 3 0), (4, .ptr 4 0), (5, .ptr 5 0), (6, .ptr 6 0), (9, .i ((w64 ((w64 (s4.1 + v11)) + 2)))), (28, .hs 1006 0), (30, .agg [.i v20.Code, .i v20.Index])], [(1699999, .sus g0.w.heap.size ds16), (1600000, .hold (.fn (.yield b10) [] []) (T16.getD 0 undef)), (1600001, .hold (.ptr 1 0) (T16.getD 1 undef)), (1600003, .hold (.i s4.1) (T16.getD 3 undef)), (1600004, .hold (.i v11) (T16.getD 4 undef)), (1600013, .hold (.bo (decide (v11 < 0))) (T16.getD 13 undef)), (1600014, .hold (.fn (.yield b10) [] []) (T16.getD 14 undef)), (1600015, .hold (.l cU a0) (T16.getD 15 undef)), (1600016, .hold (.i s4.1) (T16.getD 16 undef)), (1600017, .hold (.i s4.1) (T16.getD 17 undef)), (1600018, .hold (.i v11) (T16.getD 18 undef)), (1600019, .hold (.i ((w64 (s4.1 + v11)))) (T16.getD 19 undef)), (1600020, .hold (.l cU v14) (T16.getD 20 undef)), (1600021, .hold (.i s4.1) (T16.getD 21 undef)), (1600022, .hold (.i v11) (T16.getD 22 undef)), (1600023, .hold (.i ((w64 (s4.1 + v11)))) (T16.getD 23 undef)), (1600024, .hold (.i ((w64 ((w64 (s4.1 + v11)) + 2)))) (T16.getD 24 undef)), (1099999, .sus g0.w.heap.size ds10), (1099998, .lp b10 ((busy L10))), (1000000, .hold (.l cU a0) (T10.getD 0 undef)), (1000002, .hold (.ptr 2 0) (T10.getD 2 undef)), (1000003, .hold (.ptr 3 0) (T10.getD 3 undef)), (1000004, .hold (.ptr 4 0) (T10.getD 4 undef)), (1000005, .hold (.ptr 5 0) (T10.getD 5 undef)), (1000006, .hold (.ptr 6 0) (T10.getD 6 undef)), (1000007, .hold (.ptr 7 0) (T10.getD 7 undef)), (1000017, .hold (.fn (.func 57) [] [.ptr 1 0]) (T10.getD 17 undef)), (1, .cells [.l cU a0]), (7, .cells [.i ((w64 ((w64 (s4.1 + v11)) + 2)))]), (1006, .row 5 false 1 (List.map cU s4.2.2)), (6, .cells [.hs 1006 0]), (5, .cells [.i 0, .i 0]), (4, .cells [.bo false]), (3, .cells [.i 0]), (2, .cells [.hs 1006 0])]), ([true, true, true, true, false, false, false], [(2, .ptr 2 0), (3, .ptr 3 0), (4, .ptr 4 0), (5, .ptr 5 0), (6, .ptr 6 0), (9, .i ((w64 ((w64 (s4.1 + v11)) + 2)))), (28, .hs 1006 0), (29, .i ((w64 ((w64 (s4.1 + v11)) + 2)))), (30, .agg [.i v20.Code, .i v20.Index])], [(1699999, .sus g0.w.heap.size ds16), (1600000, .hold (.fn (.yield b10) [] []) (T16.getD 0 undef)), (1600001, .hold (.ptr 1 0) (T16.getD 1 undef)), (1600003, .hold (.i s4.1) (T16.getD 3 undef)), (1600004, .hold (.i v11) (T16.getD 4 undef)), (1600013, .hold (.bo (decide (v11 < 0))) (T16.getD 13 undef)), (1600014, .hold (.fn (.yield b10) [] []) (T16.getD 14 undef)), (1600015, .hold (.l cU a0) (T16.getD 15 undef)), (1600016, .hold (.i s4.1) (T16.getD 16 undef)), (1600017, .hold (.i s4.1) (T16.getD 17 undef)), (1600018, .hold (.i v11) (T16.getD 18 undef)), (1600019, .hold (.i ((w64 (s4.1 + v11)))) (T16.getD 19 undef)), (1600020, .hold (.l cU v14) (T16.getD 20 undef)), (1600021, .hold (.i s4.1) (T16.getD 21 undef)), (1600022, .hold (.i v11) (T16.getD 22 undef)), (1600023, .hold (.i ((w64 (s4.1 + v11)))) (T16.getD 23 undef)), (1600024, .hold (.i ((w64 ((w64 (s4.1 + v11)) + 2)))) (T16.getD 24 undef)), (1099999, .sus g0.w.heap.size ds10), (1099998, .lp b10 ((busy L10))), (1000000, .hold (.l cU a0) (T10.getD 0 undef)), (1000002, .hold (.ptr 2 0) (T10.getD 2 undef)), (1000003, .hold (.ptr 3 0) (T10.getD 3 undef)), (1000004, .hold (.ptr 4 0) (T10.getD 4 undef)), (1000005, .hold (.ptr 5 0) (T10.getD 5 undef)), (1000006, .hold (.ptr 6 0) (T10.getD 6 undef)), (1000007, .hold (.ptr 7 0) (T10.getD 7 undef)), (1000017, .hold (.fn (.func 57) [] [.ptr 1 0]) (T10.getD 17 undef)), (1, .cells [.l cU a0]), (7, .cells [.i ((w64 ((w64 (s4.1 + v11)) + 2)))]), (1006, .row 5 false 1 (List.map cU s4.2.2)), (6, .cells [.hs 1006 0]), (5, .cells [.i 0, .i 0]), (4, .cells [.bo false]), (3, .cells [.i 0]), (2, .cells [.hs 1006 0])]), ([true, true, true, true, true, false, false], [(2, .ptr 2 0), (3, .ptr 3 0), (4, .ptr 4 0), (5, .ptr 5 0), (6, .ptr 6 0), (9, .i ((w64 ((w64 (s4.1 + v11)) + 2)))), (28, .hs 1006 0), (29, .i ((w64 ((w64 (s4.1 + v11)) + 2)))), (30, .agg [.i v20.Code, .i v20.Index])], [(1699999, .sus g0.w.heap.size ds16), (1600000, .hold (.fn (.yield b10) [] []) (T16.getD 0 undef)), (1600001, .hold (.ptr 1 0) (T16.getD 1 undef)), (1600003, .hold (.i s4.1) (T16.getD 3 undef)), (1600004, .hold (.i v11) (T16.getD 4 undef)), (1600013, .hold (.bo (decide (v11 < 0))) (T16.getD 13 undef)), (1600014, .hold (.fn (.yield b10) [] []) (T16.getD 14 undef)), (1600015, .hold (.l cU a0) (T16.getD 15 undef)), (1600016, .hold (.i s4.1) (T16.getD 16 undef)), (1600017, .hold (.i s4.1) (T16.getD 17 undef)), (1600018, .hold (.i v11) (T16.getD 18 undef)), (1600019, .hold (.i ((w64 (s4.1 + v11)))) (T16.getD 19 undef)), (1600020, .hold (.l cU v14) (T16.getD 20 undef)), (1600021, .hold (.i s4.1) (T16.getD 21 undef)), (1600022, .hold (.i v11) (T16.getD 22 undef)), (1600023, .hold (.i ((w64 (s4.1 + v11)))) (T16.getD 23 undef)), (1600024, .hold (.i ((w64 ((w64 (s4.1 + v11)) + 2)))) (T16.getD 24 undef)), (1099999, .sus g0.w.heap.size ds10), (1099998, .lp b10 ((busy L10))), (1000000, .hold (.l cU a0) (T10.getD 0 undef)), (1000002, .hold (.ptr 2 0) (T10.getD 2 undef)), (1000003, .hold (.ptr 3 0) (T10.getD 3 undef)), (1000004, .hold (.ptr 4 0) (T10.getD 4 undef)), (1000005, .hold (.ptr 5 0) (T10.getD 5 undef)), (1000006, .hold (.ptr 6 0) (T10.getD 6 undef)), (1000007, .hold (.ptr 7 0) (T10.getD 7 undef)), (1000017, .hold (.fn (.func 57) [] [.ptr 1 0]) (T10.getD 17 undef)), (1, .cells [.l cU a0]), (7, .cells [.i ((w64 ((w64 (s4.1 + v11)) + 2)))]), (1006, .row 5 false 1 (List.map cU s4.2.2)), (6, .cells [.hs 1006 0]), (5, .cells [.i 0, .i 0]), (4, .cells [.bo false]), (3, .cells [.i ((w64 ((w64 (s4.1 + v11)) + 2)))]), (2, .cells [.hs 1006 0])]), ([true, true, true, true, true, true, false], [(2, .ptr 2 0), (3, .ptr 3 0), (4, .ptr 4 0), (5, .ptr 5 0), (6, .ptr 6 0), (9, .i ((w64 ((w64 (s4.1 + v11)) + 2)))), (28, .hs 1006 0), (29, .i ((w64 ((w64 (s4.1 + v11)) + 2)))), (30, .agg [.i v20.Code, .i v20.Index])], [(1699999, .sus g0.w.heap.size ds16), (1600000, .hold (.fn (.yield b10) [] []) (T16.getD 0 undef)), (1600001, .hold (.ptr 1 0) (T16.getD 1 undef)), (1600003, .hold (.i s4.1) (T16.getD 3 undef)), (1600004, .hold (.i v11) (T16.getD 4 undef)), (1600013, .hold (.bo (decide (v11 < 0))) (T16.getD 13 undef)), (1600014, .hold (.fn (.yield b10) [] []) (T16.getD 14 undef)), (1600015, .hold (.l cU a0) (T16.getD 15 undef)), (1600016, .hold (.i s4.1) (T16.getD 16 undef)), (1600017, .hold (.i s4.1) (T16.getD 17 undef)), (1600018, .hold (.i v11) (T16.getD 18 undef)), (1600019, .hold (.i ((w64 (s4.1 + v11)))) (T16.getD 19 undef)), (1600020, .hold (.l cU v14) (T16.getD 20 undef)), (1600021, .hold (.i s4.1) (T16.getD 21 undef)), (1600022, .hold (.i v11) (T16.getD 22 undef)), (1600023, .hold (.i ((w64 (s4.1 + v11)))) (T16.getD 23 undef)), (1600024, .hold (.i ((w64 ((w64 (s4.1 + v11)) + 2)))) (T16.getD 24 undef)), (1099999, .sus g0.w.heap.size ds10), (1099998, .lp b10 ((busy L10))), (1000000, .hold (.l cU a0) (T10.getD 0 undef)), (1000002, .hold (.ptr 2 0) (T10.getD 2 undef)), (1000003, .hold (.ptr 3 0) (T10.getD 3 undef)), (1000004, .hold (.ptr 4 0) (T10.getD 4 undef)), (1000005, .hold (.ptr 5 0) (T10.getD 5 undef)), (1000006, .hold (.ptr 6 0) (T10.getD 6 undef)), (1000007, .hold (.ptr 7 0) (T10.getD 7 undef)), (1000017, .hold (.fn (.func 57) [] [.ptr 1 0]) (T10.getD 17 undef)), (1, .cells [.l cU a0]), (7, .cells [.i ((w64 ((w64 (s4.1 + v11)) + 2)))]), (1006, .row 5 false 1 (List.map cU s4.2.2)), (6, .cells [.hs 1006 0]), (5, .cells [.i 0, .i 0]), (4, .cells [.bo true]), (3, .cells [.i ((w64 ((w64 (s4.1 + v11)) + 2)))]), (2, .cells [.hs 1006 0])]), ([true, true, true, true, true, true, true], [(2, .ptr 2 0), (3, .ptr 3 0), (4, .ptr 4 0), (5, .ptr 5 0), (6, .ptr 6 0), (9, .i ((w64 ((w64 (s4.1 + v11)) + 2)))), (28, .hs 1006 0), (29, .i ((w64 ((w64 (s4.1 + v11)) + 2)))), (30, .agg [.i v20.Code, .i v20.Index])], [(1699999, .sus g0.w.heap.size ds16), (1600000, .hold (.fn (.yield b10) [] []) (T16.getD 0 undef)), (1600001, .hold (.ptr 1 0) (T16.getD 1 undef)), (1600003, .hold (.i s4.1) (T16.getD 3 undef)), (1600004, .hold (.i v11) (T16.getD 4 undef)), (1600013, .hold (.bo (decide (v11 < 0))) (T16.getD 13 undef)), (1600014, .hold (.fn (.yield b10) [] []) (T16.getD 14 undef)), (1600015, .hold (.l cU a0) (T16.getD 15 undef)), (1600016, .hold (.i s4.1) (T16.getD 16 undef)), (1600017, .hold (.i s4.1) (T16.getD 17 undef)), (1600018, .hold (.i v11) (T16.getD 18 undef)), (1600019, .hold (.i ((w64 (s4.1 + v11)))) (T16.getD 19 undef)), (1600020, .hold (.l cU v14) (T16.getD 20 undef)), (1600021, .hold (.i s4.1) (T16.getD 21 undef)), (1600022, .hold (.i v11) (T16.getD 22 undef)), (1600023, .hold (.i ((w64 (s4.1 + v11)))) (T16.getD 23 undef)), (1600024, .hold (.i ((w64 ((w64 (s4.1 + v11)) + 2)))) (T16.getD 24 undef)), (1099999, .sus g0.w.heap.size ds10), (1099998, .lp b10 ((busy L10))), (1000000, .hold (.l cU a0) (T10.getD 0 undef)), (1000002, .hold (.ptr 2 0) (T10.getD 2 undef)), (1000003, .hold (.ptr 3 0) (T10.getD 3 undef)), (1000004, .hold (.ptr 4 0) (T10.getD 4 undef)), (1000005, .hold (.ptr 5 0) (T10.getD 5 undef)), (1000006, .hold (.ptr 6 0) (T10.getD 6 undef)), (1000007, .hold (.ptr 7 0) (T10.getD 7 undef)), (1000017, .hold (.fn (.func 57) [] [.ptr 1 0]) (T10.getD 17 undef)), (1, .cells [.l cU a0]), (7, .cells [.i ((w64 ((w64 (s4.1 + v11)) + 2)))]), (1006, .row 5 false 1 (List.map cU s4.2.2)), (6, .cells [.hs 1006 0]), (5, .cells [.i v20.Code, .i v20.Index]), (4, .cells [.bo true]), (3, .cells [.i ((w64 ((w64 (s4.1 + v11)) + 2)))]), (2, .cells [.hs 1006 0])])] mixed (by kernel_rfl) rfl rfl (frLe_cons rfl (frLe_cons rfl (frLe_cons rfl (frLe_cons rfl (frLe_cons rfl (frLe_cons rfl frLe_nil)))))) (stoLe_cons rfl (stoLe_cons rfl (stoLe_cons rfl (stoLe_cons rfl (stoLe_cons rfl (stoLe_cons rfl (stoLe_cons rfl (stoLe_cons rfl (stoLe_cons rfl (stoLe_cons rfl (stoLe_cons rfl (stoLe_cons rfl (stoLe_cons rfl (stoLe_cons rfl (stoLe_cons rfl (stoLe_cons rfl (stoLe_cons rfl (stoLe_cons rfl (stoLe_cons rfl (stoLe_cons rfl (stoLe_cons rfl (stoLe_cons rfl (stoLe_cons rfl (stoLe_cons rfl (stoLe_cons rfl (stoLe_cons rfl (stoLe_cons rfl (stoLe_cons rfl (stoLe_cons rfl (stoLe_cons rfl (stoLe_cons rfl (stoLe_cons rfl (stoLe_cons rfl (stoLe_cons rfl (stoLe_cons rfl stoLe_nil))))))))))))))))))))))))))))))))))) (.cons (.step [0, 1, 2] (by kernel_rfl) rfl (.cons (.yes 1 rfl (wanted_plain rfl) (opTo_q (d := 28) rfl rfl (ev_load rfl rfl ty_s_uint8 rfl rfl)) rfl (frLe_cons rfl (frLe_cons rfl (frLe_cons rfl (frLe_cons rfl (frLe_cons rfl (frLe_cons rfl (frLe_cons rfl frLe_nil))))))) (stoLe_cons rfl (stoLe_cons rfl (stoLe_cons rfl (stoLe_cons rfl (stoLe_cons rfl (stoLe_cons rfl (stoLe_cons rfl (stoLe_cons rfl (stoLe_cons rfl (stoLe_cons rfl (stoLe_cons rfl (stoLe_cons rfl (stoLe_cons rfl (stoLe_cons rfl (stoLe_cons rfl (stoLe_cons rfl (stoLe_cons rfl (stoLe_cons rfl (stoLe_cons rfl (stoLe_cons rfl (stoLe_cons rfl (stoLe_cons rfl (stoLe_cons rfl (stoLe_cons rfl (stoLe_cons rfl (stoLe_cons rfl (stoLe_cons rfl (stoLe_cons rfl (stoLe_cons rfl (stoLe_cons rfl (stoLe_cons rfl (stoLe_cons rfl (stoLe_cons rfl (stoLe_cons rfl (stoLe_cons rfl stoLe_nil)))))))))))))))))))))))))))))))))))) (.cons (.yes 2 rfl (wanted_plain rfl) (opTo_q (d := 29) rfl rfl ev_move) rfl (frLe_cons rfl (frLe_cons rfl (frLe_cons rfl (frLe_cons rfl (frLe_cons rfl (frLe_cons rfl (frLe_cons rfl frLe_nil))))))) (stoLe_cons rfl (stoLe_cons rfl (stoLe_cons rfl (stoLe_cons rfl (stoLe_cons rfl (stoLe_cons rfl (stoLe_cons rfl (stoLe_cons rfl (stoLe_cons rfl (stoLe_cons rfl (stoLe_cons rfl (stoLe_cons rfl (stoLe_cons rfl (stoLe_cons rfl (stoLe_cons rfl (stoLe_cons rfl (stoLe_cons rfl (stoLe_cons rfl (stoLe_cons rfl (stoLe_cons rfl (stoLe_cons rfl (stoLe_cons rfl (stoLe_cons rfl (stoLe_cons rfl (stoLe_cons rfl (stoLe_cons rfl (stoLe_cons rfl (stoLe_cons rfl (stoLe_cons rfl (stoLe_cons rfl (stoLe_cons rfl (stoLe_cons rfl (stoLe_cons rfl (stoLe_cons rfl (stoLe_cons rfl stoLe_nil)))))))))))))))))))))))))))))))))))) (.cons (.yes 3 rfl (wanted_plain rfl) (opTo_call (k := 30) (basic_None_run  v20 h21) rfl rfl) rfl (frLe_cons rfl (frLe_cons rfl (frLe_cons rfl (frLe_cons rfl (frLe_cons rfl (frLe_cons rfl (frLe_cons rfl frLe_nil))))))) (stoLe_cons rfl (stoLe_cons rfl (stoLe_cons rfl (stoLe_cons rfl (stoLe_cons rfl (stoLe_cons rfl (stoLe_cons rfl (stoLe_cons rfl (stoLe_cons rfl (stoLe_cons rfl (stoLe_cons rfl (stoLe_cons rfl (stoLe_cons rfl (stoLe_cons rfl (stoLe_cons rfl (stoLe_cons rfl (stoLe_cons rfl (stoLe_cons rfl (stoLe_cons rfl (stoLe_cons rfl (stoLe_cons rfl (stoLe_cons rfl (stoLe_cons rfl (stoLe_cons rfl (stoLe_cons rfl (stoLe_cons rfl (stoLe_cons rfl (stoLe_cons rfl (stoLe_cons rfl (stoLe_cons rfl (stoLe_cons rfl (stoLe_cons rfl (stoLe_cons rfl (stoLe_cons rfl (stoLe_cons rfl stoLe_nil)))))))))))))))))))))))))))))))))))) .nil)))) (.cons (.step [1, 2] (by kernel_rfl) rfl (.cons (.yes 4 rfl (wanted_plain rfl) (opTo_q (d := 29) rfl rfl ev_move) rfl (frLe_cons rfl (frLe_cons rfl (frLe_cons rfl (frLe_cons rfl (frLe_cons rfl (frLe_cons rfl (frLe_cons rfl (frLe_cons rfl frLe_nil)))))))) (stoLe_cons rfl (stoLe_cons rfl (stoLe_cons rfl (stoLe_cons rfl (stoLe_cons rfl (stoLe_cons rfl (stoLe_cons rfl (stoLe_cons rfl (stoLe_cons rfl (stoLe_cons rfl (stoLe_cons rfl (stoLe_cons rfl (stoLe_cons rfl (stoLe_cons rfl (stoLe_cons rfl (stoLe_cons rfl (stoLe_cons rfl (stoLe_cons rfl (stoLe_cons rfl (stoLe_cons rfl (stoLe_cons rfl (stoLe_cons rfl (stoLe_cons rfl (stoLe_cons rfl (stoLe_cons rfl (stoLe_cons rfl (stoLe_cons rfl (stoLe_cons rfl (stoLe_cons rfl (stoLe_cons rfl (stoLe_cons rfl (stoLe_cons rfl (stoLe_cons rfl (stoLe_cons rfl (stoLe_cons rfl stoLe_nil)))))))))))))))))))))))))))))))))))) (.cons (.yes 5 rfl (wanted_plain rfl) (opTo_call (k := 30) (basic_None_run  v20 h21) rfl rfl) rfl (frLe_cons rfl (frLe_cons rfl (frLe_cons rfl (frLe_cons rfl (frLe_cons rfl (frLe_cons rfl (frLe_cons rfl (frLe_cons rfl frLe_nil)))))))) (stoLe_cons rfl (stoLe_cons rfl (stoLe_cons rfl (stoLe_cons rfl (stoLe_cons rfl (stoLe_cons rfl (stoLe_cons rfl (stoLe_cons rfl (stoLe_cons rfl (stoLe_cons rfl (stoLe_cons rfl (stoLe_cons rfl (stoLe_cons rfl (stoLe_cons rfl (stoLe_cons rfl (stoLe_cons rfl (stoLe_cons rfl (stoLe_cons rfl (stoLe_cons rfl (stoLe_cons rfl (stoLe_cons rfl (stoLe_cons rfl (stoLe_cons rfl (stoLe_cons rfl (stoLe_cons rfl (stoLe_cons rfl (stoLe_cons rfl (stoLe_cons rfl (stoLe_cons rfl (stoLe_cons rfl (stoLe_cons rfl (stoLe_cons rfl (stoLe_cons rfl (stoLe_cons rfl (stoLe_cons rfl stoLe_nil)))))))))))))))))))))))))))))))))))) .nil))) (.cons (.step [0, 2] (by kernel_rfl) rfl (.cons (.yes 4 rfl (wanted_plain rfl) (opTo_q (d := 28) rfl rfl (ev_load rfl rfl ty_s_uint8 rfl rfl)) rfl (frLe_cons rfl (frLe_cons rfl (frLe_cons rfl (frLe_cons rfl (frLe_cons rfl (frLe_cons rfl (frLe_cons rfl (frLe_cons rfl frLe_nil)))))))) (stoLe_cons rfl (stoLe_cons rfl (stoLe_cons rfl (stoLe_cons rfl (stoLe_cons rfl (stoLe_cons rfl (stoLe_cons rfl (stoLe_cons rfl (stoLe_cons rfl (stoLe_cons rfl (stoLe_cons rfl (stoLe_cons rfl (stoLe_cons rfl (stoLe_cons rfl (stoLe_cons rfl (stoLe_cons rfl (stoLe_cons rfl (stoLe_cons rfl (stoLe_cons rfl (stoLe_cons rfl (stoLe_cons rfl (stoLe_cons rfl (stoLe_cons rfl (stoLe_cons rfl (stoLe_cons rfl (stoLe_cons rfl (stoLe_cons rfl (stoLe_cons rfl (stoLe_cons rfl (stoLe_cons rfl (stoLe_cons rfl (stoLe_cons rfl (stoLe_cons rfl (stoLe_cons rfl (stoLe_cons rfl stoLe_nil)))))))))))))))))))))))))))))))))))) (.cons (.yes 6 rfl (wanted_plain rfl) (opTo_call (k := 30) (basic_None_run  v20 h21) rfl rfl) rfl (frLe_cons rfl (frLe_cons rfl (frLe_cons rfl (frLe_cons rfl (frLe_cons rfl (frLe_cons rfl (frLe_cons rfl (frLe_cons rfl frLe_nil)))))))) (stoLe_cons rfl (stoLe_cons rfl (stoLe_cons rfl (stoLe_cons rfl (stoLe_cons rfl (stoLe_cons rfl (stoLe_cons rfl (stoLe_cons rfl (stoLe_cons rfl (stoLe_cons rfl (stoLe_cons rfl (stoLe_cons rfl (stoLe_cons rfl (stoLe_cons rfl (stoLe_cons rfl (stoLe_cons rfl (stoLe_cons rfl (stoLe_cons rfl (stoLe_cons rfl (stoLe_cons rfl (stoLe_cons rfl (stoLe_cons rfl (stoLe_cons rfl (stoLe_cons rfl (stoLe_cons rfl (stoLe_cons rfl (stoLe_cons rfl (stoLe_cons rfl (stoLe_cons rfl (stoLe_cons rfl (stoLe_cons rfl (stoLe_cons rfl (stoLe_cons rfl (stoLe_cons rfl (stoLe_cons rfl stoLe_nil)))))))))))))))))))))))))))))))))))) .nil))) (.cons (.step [0, 1] (by kernel_rfl) rfl (.cons (.yes 5 rfl (wanted_plain rfl) (opTo_q (d := 28) rfl rfl (ev_load rfl rfl ty_s_uint8 rfl rfl)) rfl (frLe_cons rfl (frLe_cons rfl (frLe_cons rfl (frLe_cons rfl (frLe_cons rfl (frLe_cons rfl (frLe_cons rfl (frLe_cons rfl frLe_nil)))))))) (stoLe_cons rfl (stoLe_cons rfl (stoLe_cons rfl (stoLe_cons rfl (stoLe_cons rfl (stoLe_cons rfl (stoLe_cons rfl (stoLe_cons rfl (stoLe_cons rfl (stoLe_cons rfl (stoLe_cons rfl (stoLe_cons rfl (stoLe_cons rfl (stoLe_cons rfl (stoLe_cons rfl (stoLe_cons rfl (stoLe_cons rfl (stoLe_cons rfl (stoLe_cons rfl (stoLe_cons rfl (stoLe_cons rfl (stoLe_cons rfl (stoLe_cons rfl (stoLe_cons rfl (stoLe_cons rfl (stoLe_cons rfl (stoLe_cons rfl (stoLe_cons rfl (stoLe_cons rfl (stoLe_cons rfl (stoLe_cons rfl (stoLe_cons rfl (stoLe_cons rfl (stoLe_cons rfl (stoLe_cons rfl stoLe_nil)))))))))))))))))))))))))))))))))))) (.cons (.yes 6 rfl (wanted_plain rfl) (opTo_q (d := 29) rfl rfl ev_move) rfl (frLe_cons rfl (frLe_cons rfl (frLe_cons rfl (frLe_cons rfl (frLe_cons rfl (frLe_cons rfl (frLe_cons rfl (frLe_cons rfl frLe_nil)))))))) (stoLe_cons rfl (stoLe_cons rfl (stoLe_cons rfl (stoLe_cons rfl (stoLe_cons rfl (stoLe_cons rfl (stoLe_cons rfl (stoLe_cons rfl (stoLe_cons rfl (stoLe_cons rfl (stoLe_cons rfl (stoLe_cons rfl (stoLe_cons rfl (stoLe_cons rfl (stoLe_cons rfl (stoLe_cons rfl (stoLe_cons rfl (stoLe_cons rfl (stoLe_cons rfl (stoLe_cons rfl (stoLe_cons rfl (stoLe_cons rfl (stoLe_cons rfl (stoLe_cons rfl (stoLe_cons rfl (stoLe_cons rfl (stoLe_cons rfl (stoLe_cons rfl (stoLe_cons rfl (stoLe_cons rfl (stoLe_cons rfl (stoLe_cons rfl (stoLe_cons rfl (stoLe_cons rfl (stoLe_cons rfl stoLe_nil)))))))))))))))))))))))))))))))))))) .nil))) (.cons (.step [2] (by kernel_rfl) rfl (.cons (.yes 7 rfl (wanted_plain rfl) (opTo_call (k := 30) (basic_None_run  v20 h21) rfl rfl) rfl (frLe_cons rfl (frLe_cons rfl (frLe_cons rfl (frLe_cons rfl (frLe_cons rfl (frLe_cons rfl (frLe_cons rfl (frLe_cons rfl (frLe_cons rfl frLe_nil))))))))) (stoLe_cons rfl (stoLe_cons rfl (stoLe_cons rfl (stoLe_cons rfl (stoLe_cons rfl (stoLe_cons rfl (stoLe_cons rfl (stoLe_cons rfl (stoLe_cons rfl (stoLe_cons rfl (stoLe_cons rfl (stoLe_cons rfl (stoLe_cons rfl (stoLe_cons rfl (stoLe_cons rfl (stoLe_cons rfl (stoLe_cons rfl (stoLe_cons rfl (stoLe_cons rfl (stoLe_cons rfl (stoLe_cons rfl (stoLe_cons rfl (stoLe_cons rfl (stoLe_cons rfl (stoLe_cons rfl (stoLe_cons rfl (stoLe_cons rfl (stoLe_cons rfl (stoLe_cons rfl (stoLe_cons rfl (stoLe_cons rfl (stoLe_cons rfl (stoLe_cons rfl (stoLe_cons rfl (stoLe_cons rfl stoLe_nil)))))))))))))))))))))))))))))))))))) .nil)) (.cons (.step [1, 3] (by kernel_rfl) rfl (.cons (.yes 7 rfl (wanted_plain rfl) (opTo_q (d := 29) rfl rfl ev_move) rfl (frLe_cons rfl (frLe_cons rfl (frLe_cons rfl (frLe_cons rfl (frLe_cons rfl (frLe_cons rfl (frLe_cons rfl (frLe_cons rfl (frLe_cons rfl frLe_nil))))))))) (stoLe_cons rfl (stoLe_cons rfl (stoLe_cons rfl (stoLe_cons rfl (stoLe_cons rfl (stoLe_cons rfl (stoLe_cons rfl (stoLe_cons rfl (stoLe_cons rfl (stoLe_cons rfl (stoLe_cons rfl (stoLe_cons rfl (stoLe_cons rfl (stoLe_cons rfl (stoLe_cons rfl (stoLe_cons rfl (stoLe_cons rfl (stoLe_cons rfl (stoLe_cons rfl (stoLe_cons rfl (stoLe_cons rfl (stoLe_cons rfl (stoLe_cons rfl (stoLe_cons rfl (stoLe_cons rfl (stoLe_cons rfl (stoLe_cons rfl (stoLe_cons rfl (stoLe_cons rfl (stoLe_cons rfl (stoLe_cons rfl (stoLe_cons rfl (stoLe_cons rfl (stoLe_cons rfl (stoLe_cons rfl stoLe_nil)))))))))))))))))))))))))))))))))))) (.cons (.yes 8 rfl (wanted_plain rfl) (opTo_store rfl rfl rfl ty_s_uint8 rfl rfl) rfl (frLe_cons rfl (frLe_cons rfl (frLe_cons rfl (frLe_cons rfl (frLe_cons rfl (frLe_cons rfl (frLe_cons rfl (frLe_cons rfl frLe_nil)))))))) (stoLe_cons rfl (stoLe_cons rfl (stoLe_cons rfl (stoLe_cons rfl (stoLe_cons rfl (stoLe_cons rfl (stoLe_cons rfl (stoLe_cons rfl (stoLe_cons rfl (stoLe_cons rfl (stoLe_cons rfl (stoLe_cons rfl (stoLe_cons rfl (stoLe_cons rfl (stoLe_cons rfl (stoLe_cons rfl (stoLe_cons rfl (stoLe_cons rfl (stoLe_cons rfl (stoLe_cons rfl (stoLe_cons rfl (stoLe_cons rfl (stoLe_cons rfl (stoLe_cons rfl (stoLe_cons rfl (stoLe_cons rfl (stoLe_cons rfl (stoLe_cons rfl (stoLe_cons rfl (stoLe_cons rfl (stoLe_cons rfl (stoLe_cons rfl (stoLe_cons rfl (stoLe_cons rfl (stoLe_cons rfl stoLe_nil)))))))))))))))))))))))))))))))))))) .nil))) (.cons (.step [0] (by kernel_rfl) rfl (.cons (.yes 7 rfl (wanted_plain rfl) (opTo_q (d := 28) rfl rfl (ev_load rfl rfl ty_s_uint8 rfl rfl)) rfl (frLe_cons rfl (frLe_cons rfl (frLe_cons rfl (frLe_cons rfl (frLe_cons rfl (frLe_cons rfl (frLe_cons rfl (frLe_cons rfl (frLe_cons rfl frLe_nil))))))))) (stoLe_cons rfl (stoLe_cons rfl (stoLe_cons rfl (stoLe_cons rfl (stoLe_cons rfl (stoLe_cons rfl (stoLe_cons rfl (stoLe_cons rfl (stoLe_cons rfl (stoLe_cons rfl (stoLe_cons rfl (stoLe_cons rfl (stoLe_cons rfl (stoLe_cons rfl (stoLe_cons rfl (stoLe_cons rfl (stoLe_cons rfl (stoLe_cons rfl (stoLe_cons rfl (stoLe_cons rfl (stoLe_cons rfl (stoLe_cons rfl (stoLe_cons rfl (stoLe_cons rfl (stoLe_cons rfl (stoLe_cons rfl (stoLe_cons rfl (stoLe_cons rfl (stoLe_cons rfl (stoLe_cons rfl (stoLe_cons rfl (stoLe_cons rfl (stoLe_cons rfl (stoLe_cons rfl (stoLe_cons rfl stoLe_nil)))))))))))))))))))))))))))))))))))) .nil)) (.cons (.step [3] (by kernel_rfl) rfl (.cons (.yes 9 rfl (wanted_plain rfl) (opTo_store rfl rfl rfl ty_s_uint8 rfl rfl) rfl (frLe_cons rfl (frLe_cons rfl (frLe_cons rfl (frLe_cons rfl (frLe_cons rfl (frLe_cons rfl (frLe_cons rfl (frLe_cons rfl (frLe_cons rfl frLe_nil))))))))) (stoLe_cons rfl (stoLe_cons rfl (stoLe_cons rfl (stoLe_cons rfl (stoLe_cons rfl (stoLe_cons rfl (stoLe_cons rfl (stoLe_cons rfl (stoLe_cons rfl (stoLe_cons rfl (stoLe_cons rfl (stoLe_cons rfl (stoLe_cons rfl (stoLe_cons rfl (stoLe_cons rfl (stoLe_cons rfl (stoLe_cons rfl (stoLe_cons rfl (stoLe_cons rfl (stoLe_cons rfl (stoLe_cons rfl (stoLe_cons rfl (stoLe_cons rfl (stoLe_cons rfl (stoLe_cons rfl (stoLe_cons rfl (stoLe_cons rfl (stoLe_cons rfl (stoLe_cons rfl (stoLe_cons rfl (stoLe_cons rfl (stoLe_cons rfl (stoLe_cons rfl (stoLe_cons rfl (stoLe_cons rfl stoLe_nil)))))))))))))))))))))))))))))))))))) .nil)) (.cons (.step [1] (by kernel_rfl) rfl (.cons (.yes 9 rfl (wanted_plain rfl) (opTo_q (d := 29) rfl rfl ev_move) rfl (frLe_cons rfl (frLe_cons rfl (frLe_cons rfl (frLe_cons rfl (frLe_cons rfl (frLe_cons rfl (frLe_cons rfl (frLe_cons rfl (frLe_cons rfl frLe_nil))))))))) (stoLe_cons rfl (stoLe_cons rfl (stoLe_cons rfl (stoLe_cons rfl (stoLe_cons rfl (stoLe_cons rfl (stoLe_cons rfl (stoLe_cons rfl (stoLe_cons rfl (stoLe_cons rfl (stoLe_cons rfl (stoLe_cons rfl (stoLe_cons rfl (stoLe_cons rfl (stoLe_cons rfl (stoLe_cons rfl (stoLe_cons rfl (stoLe_cons rfl (stoLe_cons rfl (stoLe_cons rfl (stoLe_cons rfl (stoLe_cons rfl (stoLe_cons rfl (stoLe_cons rfl (stoLe_cons rfl (stoLe_cons rfl (stoLe_cons rfl (stoLe_cons rfl (stoLe_cons rfl (stoLe_cons rfl (stoLe_cons rfl (stoLe_cons rfl (stoLe_cons rfl (stoLe_cons rfl (stoLe_cons rfl stoLe_nil)))))))))))))))))))))))))))))))))))) .nil)) (.cons (.step [4] (by kernel_rfl) rfl (.cons (.yes 10 rfl (wanted_plain rfl) (opTo_store rfl rfl rfl ty_int rfl rfl) rfl (frLe_cons rfl (frLe_cons rfl (frLe_cons rfl (frLe_cons rfl (frLe_cons rfl (frLe_cons rfl (frLe_cons rfl (frLe_cons rfl (frLe_cons rfl frLe_nil))))))))) (stoLe_cons rfl (stoLe_cons rfl (stoLe_cons rfl (stoLe_cons rfl (stoLe_cons rfl (stoLe_cons rfl (stoLe_cons rfl (stoLe_cons rfl (stoLe_cons rfl (stoLe_cons rfl (stoLe_cons rfl (stoLe_cons rfl (stoLe_cons rfl (stoLe_cons rfl (stoLe_cons rfl (stoLe_cons rfl (stoLe_cons rfl (stoLe_cons rfl (stoLe_cons rfl (stoLe_cons rfl (stoLe_cons rfl (stoLe_cons rfl (stoLe_cons rfl (stoLe_cons rfl (stoLe_cons rfl (stoLe_cons rfl (stoLe_cons rfl (stoLe_cons rfl (stoLe_cons rfl (stoLe_cons rfl (stoLe_cons rfl (stoLe_cons rfl (stoLe_cons rfl (stoLe_cons rfl (stoLe_cons rfl stoLe_nil)))))))))))))))))))))))))))))))))))) .nil)) (.cons (.step [5] (by kernel_rfl) rfl (.cons (.yes 11 rfl (wanted_plain rfl) (opTo_store rfl rfl rfl ty_bool rfl rfl) rfl (frLe_cons rfl (frLe_cons rfl (frLe_cons rfl (frLe_cons rfl (frLe_cons rfl (frLe_cons rfl (frLe_cons rfl (frLe_cons rfl (frLe_cons rfl frLe_nil))))))))) (stoLe_cons rfl (stoLe_cons rfl (stoLe_cons rfl (stoLe_cons rfl (stoLe_cons rfl (stoLe_cons rfl (stoLe_cons rfl (stoLe_cons rfl (stoLe_cons rfl (stoLe_cons rfl (stoLe_cons rfl (stoLe_cons rfl (stoLe_cons rfl (stoLe_cons rfl (stoLe_cons rfl (stoLe_cons rfl (stoLe_cons rfl (stoLe_cons rfl (stoLe_cons rfl (stoLe_cons rfl (stoLe_cons rfl (stoLe_cons rfl (stoLe_cons rfl (stoLe_cons rfl (stoLe_cons rfl (stoLe_cons rfl (stoLe_cons rfl (stoLe_cons rfl (stoLe_cons rfl (stoLe_cons rfl (stoLe_cons rfl (stoLe_cons rfl (stoLe_cons rfl (stoLe_cons rfl (stoLe_cons rfl stoLe_nil)))))))))))))))))))))))))))))))))))) .nil)) (.cons (.step [6] (by kernel_rfl) rfl (.cons (.yes 12 rfl (wanted_plain rfl) (opTo_store rfl rfl rfl ty_api_Fault rfl rfl) rfl (frLe_cons rfl (frLe_cons rfl (frLe_cons rfl (frLe_cons rfl (frLe_cons rfl (frLe_cons rfl (frLe_cons rfl (frLe_cons rfl (frLe_cons rfl frLe_nil))))))))) (stoLe_cons rfl (stoLe_cons rfl (stoLe_cons rfl (stoLe_cons rfl (stoLe_cons rfl (stoLe_cons rfl (stoLe_cons rfl (stoLe_cons rfl (stoLe_cons rfl (stoLe_cons rfl (stoLe_cons rfl (stoLe_cons rfl (stoLe_cons rfl (stoLe_cons rfl (stoLe_cons rfl (stoLe_cons rfl (stoLe_cons rfl (stoLe_cons rfl (stoLe_cons rfl (stoLe_cons rfl (stoLe_cons rfl (stoLe_cons rfl (stoLe_cons rfl (stoLe_cons rfl (stoLe_cons rfl (stoLe_cons rfl (stoLe_cons rfl (stoLe_cons rfl (stoLe_cons rfl (stoLe_cons rfl (stoLe_cons rfl (stoLe_cons rfl (stoLe_cons rfl (stoLe_cons rfl (stoLe_cons rfl stoLe_nil)))))))))))))))))))))))))))))))))))) .nil)) (.cons (.full (by kernel_rfl) ?_) .nil)))))))))))))
            refine kthen_normal ?_
            refine awp_pubC (o := 2) (j := 0) (F := cU) (l := s4.2.2) rfl rfl rfl ?_
            refine awp_ret ?_
            refine kthen_ret ?_
            refine kblock_ret ?_
            refine rndK (fr'' := [(0, .fn (.yield b10) [] []), (1, .ptr 1 0), (3, .i s4.1), (4, .i v11), (13, .bo (decide (v11 < 0))), (14, .fn (.yield b10) [] []), (15, .l cU a0), (16, .i s4.1), (17, .i s4.1), (18, .i v11), (19, .i ((w64 (s4.1 + v11)))), (20, .l cU v14), (21, .i s4.1), (22, .i v11), (23, .i ((w64 (s4.1 + v11)))), (24, .i ((w64 ((w64 (s4.1 + v11)) + 2))))]) (σ'' := [(1099999, .sus g0.w.heap.size ds10), (1099998, .lp b10 ((stop L10 .ret))), (1000000, .hold (.l cU a0) (T10.getD 0 undef)), (1000002, .hold (.ptr 2 0) (T10.getD 2 undef)), (1000003, .hold (.ptr 3 0) (T10.getD 3 undef)), (1000004, .hold (.ptr 4 0) (T10.getD 4 undef)), (1000005, .hold (.ptr 5 0) (T10.getD 5 undef)), (1000006, .hold (.ptr 6 0) (T10.getD 6 undef)), (1000007, .hold (.ptr 7 0) (T10.getD 7 undef)), (1000017, .hold (.fn (.func 57) [] [.ptr 1 0]) (T10.getD 17 undef)), (1, .cells [.l cU a0]), (7, .cells [.i ((w64 ((w64 (s4.1 + v11)) + 2)))]), (1006, .row 5 false 1 (List.map cU s4.2.2)), (6, .cells [.hs 1006 0]), (5, .cells [.i v20.Code, .i v20.Index]), (4, .cells [.bo true]), (3, .cells [.i ((w64 ((w64 (s4.1 + v11)) + 2)))]), (2, .cells [.l cU s4.2.2])]) .ret stoLe_refl rfl (.cons rfl (.cons rfl (.cons rfl (.cons rfl (.cons rfl (.cons rfl (.cons rfl (.cons rfl (.cons rfl (.cons rfl (.cons rfl (.cons rfl (.cons rfl (.cons rfl (.cons rfl (.cons rfl .nil)))))))))))))))) rfl (stoLe_cons rfl (stoLe_cons rfl (stoLe_cons rfl (stoLe_cons rfl (stoLe_cons rfl (stoLe_cons rfl (stoLe_cons rfl (stoLe_cons rfl (stoLe_cons rfl (stoLe_cons rfl (stoLe_cons rfl (stoLe_cons rfl (stoLe_cons rfl (stoLe_cons rfl (stoLe_cons rfl (stoLe_cons rfl (stoLe_cons rfl (stoLe_cons rfl stoLe_nil)))))))))))))))))) ?_
            refine awpl_yes (d := 13) rfl rfl rfl c13 (opTo_q (d := 26) rfl rfl (ev_not rfl)) ?_
            refine awpl_op rfl (opTo_q (d := 27) rfl rfl (ev_pick_f rfl c13)) ?_
            refine awpl_nil ?_
            refine kthen_normal ?_
            refine awp_cond (t := true) rfl (fun _ => ?_) (fun h => nomatch h)
            refine awp_ret ?_
            refine kthen_ret ?_
            refine kblock_ret ?_
            cases hr
            exact ⟨by simp, rfl, frLe_nil, (stoLe_cons rfl (stoLe_cons rfl (stoLe_cons rfl (stoLe_cons rfl (stoLe_cons rfl (stoLe_cons rfl (stoLe_cons rfl (stoLe_cons rfl (stoLe_cons rfl (stoLe_cons rfl (stoLe_cons rfl (stoLe_cons rfl (stoLe_cons rfl (stoLe_cons rfl (stoLe_cons rfl (stoLe_cons rfl (stoLe_cons rfl (stoLe_cons rfl stoLe_nil))))))))))))))))))⟩
        · replace hr := cond_f c16 hr
          refine awp_skip ?_
          refine kthen_normal ?_
          obtain ⟨v22, h23, hr⟩ := bind_some hr
          obtain ⟨v24, h25, hr⟩ := bind_some hr
          obtain ⟨v26, h27, hr⟩ := bind_some hr
          refine awp_explore [([false, false, false, false, false, false, false, false], [(6, .ptr 6 0), (8, .l cU v14)], [(1699999, .sus g0.w.heap.size ds16), (1600000, .hold (.fn (.yield b10) [] []) (T16.getD 0 undef)), (1600001, .hold (.ptr 1 0) (T16.getD 1 undef)), (1600003, .hold (.i s4.1) (T16.getD 3 undef)), (1600004, .hold (.i v11) (T16.getD 4 undef)), (1600013, .hold (.bo (decide (v11 < 0))) (T16.getD 13 undef)), (1600014, .hold (.fn (.yield b10) [] []) (T16.getD 14 undef)), (1600015, .hold (.l cU a0) (T16.getD 15 undef)), (1600016, .hold (.i s4.1) (T16.getD 16 undef)), (1600017, .hold (.i s4.1) (T16.getD 17 undef)), (1600018, .hold (.i v11) (T16.getD 18 undef)), (1600019, .hold (.i ((w64 (s4.1 + v11)))) (T16.getD 19 undef)), (1600020, .hold (.l cU v14) (T16.getD 20 undef)), (1600021, .hold (.i s4.1) (T16.getD 21 undef)), (1600022, .hold (.i v11) (T16.getD 22 undef)), (1600023, .hold (.i ((w64 (s4.1 + v11)))) (T16.getD 23 undef)), (1600024, .hold (.i ((w64 ((w64 (s4.1 + v11)) + 2)))) (T16.getD 24 undef)), (1099999, .sus g0.w.heap.size ds10), (1099998, .lp b10 ((busy L10))), (1000000, .hold (.l cU a0) (T10.getD 0 undef)), (1000002, .hold (.ptr 2 0) (T10.getD 2 undef)), (1000003, .hold (.ptr 3 0) (T10.getD 3 undef)), (1000004, .hold (.ptr 4 0) (T10.getD 4 undef)), (1000005, .hold (.ptr 5 0) (T10.getD 5 undef)), (1000006, .hold (.ptr 6 0) (T10.getD 6 undef)), (1000007, .hold (.ptr 7 0) (T10.getD 7 undef)), (1000017, .hold (.fn (.func 57) [] [.ptr 1 0]) (T10.getD 17 undef)), (1, .cells [.l cU a0]), (7, .cells [.i ((w64 ((w64 (s4.1 + v11)) + 2)))]), (1006, .row 5 false 1 (List.map cU s4.2.2)), (6, .cells [.hs 1006 0]), (5, .cells [.i 0, .i 0]), (4, .cells [.bo false]), (3, .cells [.i 0]), (2, .cells [.l cU ([])])]), ([true, false, false, false, false, false, false, false], [(6, .ptr 6 0), (8, .l cU v14), (31, .hs 1006 0)], [(1699999, .sus g0.w.heap.size ds16), (1600000, .hold (.fn (.yield b10) [] []) (T16.getD 0 undef)), (1600001, .hold (.ptr 1 0) (T16.getD 1 undef)), (1600003, .hold (.i s4.1) (T16.getD 3 undef)), (1600004, .hold (.i v11) (T16.getD 4 undef)), (1600013, .hold (.bo (decide (v11 < 0))) (T16.getD 13 undef)), (1600014, .hold (.fn (.yield b10) [] []) (T16.getD 14 undef)), (1600015, .hold (.l cU a0) (T16.getD 15 undef)), (1600016, .hold (.i s4.1) (T16.getD 16 undef)), (1600017, .hold (.i s4.1) (T16.getD 17 undef)), (1600018, .hold (.i v11) (T16.getD 18 undef)), (1600019, .hold (.i ((w64 (s4.1 + v11)))) (T16.getD 19 undef)), (1600020, .hold (.l cU v14) (T16.getD 20 undef)), (1600021, .hold (.i s4.1) (T16.getD 21 undef)), (1600022, .hold (.i v11) (T16.getD 22 undef)), (1600023, .hold (.i ((w64 (s4.1 + v11)))) (T16.getD 23 undef)), (1600024, .hold (.i ((w64 ((w64 (s4.1 + v11)) + 2)))) (T16.getD 24 undef)), (1099999, .sus g0.w.heap.size ds10), (1099998, .lp b10 ((busy L10))), (1000000, .hold (.l cU a0) (T10.getD 0 undef)), (1000002, .hold (.ptr 2 0) (T10.getD 2 undef)), (1000003, .hold (.ptr 3 0) (T10.getD 3 undef)), (1000004, .hold (.ptr 4 0) (T10.getD 4 undef)), (1000005, .hold (.ptr 5 0) (T10.getD 5 undef)), (1000006, .hold (.ptr 6 0) (T10.getD 6 undef)), (1000007, .hold (.ptr 7 0) (T10.getD 7 undef)), (1000017, .hold (.fn (.func 57) [] [.ptr 1 0]) (T10.getD 17 undef)), (1, .cells [.l cU a0]), (7, .cells [.i ((w64 ((w64 (s4.1 + v11)) + 2)))]), (1006, .row 5 false 1 (List.map cU s4.2.2)), (6, .cells [.hs 1006 0]), (5, .cells [.i 0, .i 0]), (4, .cells [.bo false]), (3, .cells [.i 0]), (2, .cells [.l cU ([])])]), ([false, true, false, false, false, false, false, false], [(6, .ptr 6 0), (8, .l cU v14), (32, .l cU v14)], [(1699999, .sus g0.w.heap.size ds16), (1600000, .hold (.fn (.yield b10) [] []) (T16.getD 0 undef)), (1600001, .hold (.ptr 1 0) (T16.getD 1 undef)), (1600003, .hold (.i s4.1) (T16.getD 3 undef)), (1600004, .hold (.i v11) (T16.getD 4 undef)), (1600013, .hold (.bo (decide (v11 < 0))) (T16.getD 13 undef)), (1600014, .hold (.fn (.yield b10) [] []) (T16.getD 14 undef)), (1600015, .hold (.l cU a0) (T16.getD 15 undef)), (1600016, .hold (.i s4.1) (T16.getD 16 undef)), (1600017, .hold (.i s4.1) (T16.getD 17 undef)), (1600018, .hold (.i v11) (T16.getD 18 undef)), (1600019, .hold (.i ((w64 (s4.1 + v11)))) (T16.getD 19 undef)), (1600020, .hold (.l cU v14) (T16.getD 20 undef)), (1600021, .hold (.i s4.1) (T16.getD 21 undef)), (1600022, .hold (.i v11) (T16.getD 22 undef)), (1600023, .hold (.i ((w64 (s4.1 + v11)))) (T16.getD 23 undef)), (1600024, .hold (.i ((w64 ((w64 (s4.1 + v11)) + 2)))) (T16.getD 24 undef)), (1099999, .sus g0.w.heap.size ds10), (1099998, .lp b10 ((busy L10))), (1000000, .hold (.l cU a0) (T10.getD 0 undef)), (1000002, .hold (.ptr 2 0) (T10.getD 2 undef)), (1000003, .hold (.ptr 3 0) (T10.getD 3 undef)), (1000004, .hold (.ptr 4 0) (T10.getD 4 undef)), (1000005, .hold (.ptr 5 0) (T10.getD 5 undef)), (1000006, .hold (.ptr 6 0) (T10.getD 6 undef)), (1000007, .hold (.ptr 7 0) (T10.getD 7 undef)), (1000017, .hold (.fn (.func 57) [] [.ptr 1 0]) (T10.getD 17 undef)), (1, .cells [.l cU a0]), (7, .cells [.i ((w64 ((w64 (s4.1 + v11)) + 2)))]), (1006, .row 5 false 1 (List.map cU s4.2.2)), (6, .cells [.hs 1006 0]), (5, .cells [.i 0, .i 0]), (4, .cells [.bo false]), (3, .cells [.i 0]), (2, .cells [.l cU ([])])]), ([false, false, true, false, false, false, false, false], [(6, .ptr 6 0), (8, .l cU v14), (33, .hs 1033 0)], [(1033, .row 5 true 1 (List.map cU (([(46 : UInt8)] : List UInt8)))), (1699999, .sus g0.w.heap.size ds16), (1600000, .hold (.fn (.yield b10) [] []) (T16.getD 0 undef)), (1600001, .hold (.ptr 1 0) (T16.getD 1 undef)), (1600003, .hold (.i s4.1) (T16.getD 3 undef)), (1600004, .hold (.i v11) (T16.getD 4 undef)), (1600013, .hold (.bo (decide (v11 < 0))) (T16.getD 13 undef)), (1600014, .hold (.fn (.yield b10) [] []) (T16.getD 14 undef)), (1600015, .hold (.l cU a0) (T16.getD 15 undef)), (1600016, .hold (.i s4.1) (T16.getD 16 undef)), (1600017, .hold (.i s4.1) (T16.getD 17 undef)), (1600018, .hold (.i v11) (T16.getD 18 undef)), (1600019, .hold (.i ((w64 (s4.1 + v11)))) (T16.getD 19 undef)), (1600020, .hold (.l cU v14) (T16.getD 20 undef)), (1600021, .hold (.i s4.1) (T16.getD 21 undef)), (1600022, .hold (.i v11) (T16.getD 22 undef)), (1600023, .hold (.i ((w64 (s4.1 + v11)))) (T16.getD 23 undef)), (1600024, .hold (.i ((w64 ((w64 (s4.1 + v11)) + 2)))) (T16.getD 24 undef)), (1099999, .sus g0.w.heap.size ds10), (1099998, .lp b10 ((busy L10))), (1000000, .hold (.l cU a0) (T10.getD 0 undef)), (1000002, .hold (.ptr 2 0) (T10.getD 2 undef)), (1000003, .hold (.ptr 3 0) (T10.getD 3 undef)), (1000004, .hold (.ptr 4 0) (T10.getD 4 undef)), (1000005, .hold (.ptr 5 0) (T10.getD 5 undef)), (1000006, .hold (.ptr 6 0) (T10.getD 6 undef)), (1000007, .hold (.ptr 7 0) (T10.getD 7 undef)), (1000017, .hold (.fn (.func 57) [] [.ptr 1 0]) (T10.getD 17 undef)), (1, .cells [.l cU a0]), (7, .cells [.i ((w64 ((w64 (s4.1 + v11)) + 2)))]), (1006, .row 5 false 1 (List.map cU s4.2.2)), (6, .cells [.hs 1006 0]), (5, .cells [.i 0, .i 0]), (4, .cells [.bo false]), (3, .cells [.i 0]), (2, .cells [.l cU ([])])]), ([true, true, false, false, false, false, false, false], [(6, .ptr 6 0), (8, .l cU v14), (31, .hs 1006 0), (32, .l cU v14)], [(1699999, .sus g0.w.heap.size ds16), (1600000, .hold (.fn (.yield b10) [] []) (T16.getD 0 undef)), (1600001, .hold (.ptr 1 0) (T16.getD 1 undef)), (1600003, .hold (.i s4.1) (T16.getD 3 undef)), (1600004, .hold (.i v11) (T16.getD 4 undef)), (1600013, .hold (.bo (decide (v11 < 0))) (T16.getD 13 undef)), (1600014, .hold (.fn (.yield b10) [] []) (T16.getD 14 undef)), (1600015, .hold (.l cU a0) (T16.getD 15 undef)), (1600016, .hold (.i s4.1) (T16.getD 16 undef)), (1600017, .hold (.i s4.1) (T16.getD 17 undef)), (1600018, .hold (.i v11) (T16.getD 18 undef)), (1600019, .hold (.i ((w64 (s4.1 + v11)))) (T16.getD 19 undef)), (1600020, .hold (.l cU v14) (T16.getD 20 undef)), (1600021, .hold (.i s4.1) (T16.getD 21 undef)), (1600022, .hold (.i v11) (T16.getD 22 undef)), (1600023, .hold (.i ((w64 (s4.1 + v11)))) (T16.getD 23 undef)), (1600024, .hold (.i ((w64 ((w64 (s4.1 + v11)) + 2)))) (T16.getD 24 undef)), (1099999, .sus g0.w.heap.size ds10), (1099998, .lp b10 ((busy L10))), (1000000, .hold (.l cU a0) (T10.getD 0 undef)), (1000002, .hold (.ptr 2 0) (T10.getD 2 undef)), (1000003, .hold (.ptr 3 0) (T10.getD 3 undef)), (1000004, .hold (.ptr 4 0) (T10.getD 4 undef)), (1000005, .hold (.ptr 5 0) (T10.getD 5 undef)), (1000006, .hold (.ptr 6 0) (T10.getD 6 undef)), (1000007, .hold (.ptr 7 0) (T10.getD 7 undef)), (1000017, .hold (.fn (.func 57) [] [.ptr 1 0]) (T10.getD 17 undef)), (1, .cells [.l cU a0]), (7, .cells [.i ((w64 ((w64 (s4.1 + v11)) + 2)))]), (1006, .row 5 false 1 (List.map cU s4.2.2)), (6, .cells [.hs 1006 0]), (5, .cells [.i 0, .i 0]), (4, .cells [.bo false]), (3, .cells [.i 0]), (2, .cells [.l cU ([])])]), ([true, false, true, false, false, false, false, false], [(6, .ptr 6 0), (8, .l cU v14), (31, .hs 1006 0), (33, .hs 1033 0)], [(1033, .row 5 true 1 (List.map cU (([(46 : UInt8)] : List UInt8)))), (1699999, .sus g0.w.heap.size ds16), (1600000, .hold (.fn (.yield b10) [] []) (T16.getD 0 undef)), (1600001, .hold (.ptr 1 0) (T16.getD 1 undef)), (1600003, .hold (.i s4.1) (T16.getD 3 undef)), (1600004, .hold (.i v11) (T16.getD 4 undef)), (1600013, .hold (.bo (decide (v11 < 0))) (T16.getD 13 undef)), (1600014, .hold (.fn (.yield b10) [] []) (T16.getD 14 undef)), (1600015, .hold (.l cU a0) (T16.getD 15 undef)), (1600016, .hold (.i s4.1) (T16.getD 16 undef)), (1600017, .hold (.i s4.1) (T16.getD 17 undef)), (1600018, .hold (.i v11) (T16.getD 18 undef)), (1600019, .hold (.i ((w64 (s4.1 + v11)))) (T16.getD 19 undef)), (1600020, .hold (.l cU v14) (T16.getD 20 undef)), (1600021, .hold (.i s4.1) (T16.getD 21 undef)), (1600022, .hold (.i v11) (T16.getD 22 undef)), (1600023, .hold (.i ((w64 (s4.1 + v11)))) (T16.getD 23 undef)), (1600024, .hold (.i ((w64 ((w64 (s4.1 + v11)) + 2)))) (T16.getD 24 undef)), (1099999, .sus g0.w.heap.size ds10), (1099998, .lp b10 ((busy L10))), (1000000, .hold (.l cU a0) (T10.getD 0 undef)), (1000002, .hold (.ptr 2 0) (T10.getD 2 undef)), (1000003, .hold (.ptr 3 0) (T10.getD 3 undef)), (1000004, .hold (.ptr 4 0) (T10.getD 4 undef)), (1000005, .hold (.ptr 5 0) (T10.getD 5 undef)), (1000006, .hold (.ptr 6 0) (T10.getD 6 undef)), (1000007, .hold (.ptr 7 0) (T10.getD 7 undef)), (1000017, .hold (.fn (.func 57) [] [.ptr 1 0]) (T10.getD 17 undef)), (1, .cells [.l cU a0]), (7, .cells [.i ((w64 ((w64 (s4.1 + v11)) + 2)))]), (1006, .row 5 false 1 (List.map cU s4.2.2)), (6, .cells [.hs 1006 0]), (5, .cells [.i 0, .i 0]), (4, .cells [.bo false]), (3, .cells [.i 0]), (2, .cells [.l cU ([])])]), ([false, true, true, false, false, false, false, false], [(6, .ptr 6 0), (8, .l cU v14), (32, .l cU v14), (33, .hs 1033 0)], [(1033, .row 5 true 1 (List.map cU (([(46 : UInt8)] : List UInt8)))), (1699999, .sus g0.w.heap.size ds16), (1600000, .hold (.fn (.yield b10) [] []) (T16.getD 0 undef)), (1600001, .hold (.ptr 1 0) (T16.getD 1 undef)), (1600003, .hold (.i s4.1) (T16.getD 3 undef)), (1600004, .hold (.i v11) (T16.getD 4 undef)), (1600013, .hold (.bo (decide (v11 < 0))) (T16.getD 13 undef)), (1600014, .hold (.fn (.yield b10) [] []) (T16.getD 14 undef)), (1600015, .hold (.l cU a0) (T16.getD 15 undef)), (1600016, .hold (.i s4.1) (T16.getD 16 undef)), (1600017, .hold (.i s4.1) (T16.getD 17 undef)), (1600018, .hold (.i v11) (T16.getD 18 undef)), (1600019, .hold (.i ((w64 (s4.1 + v11)))) (T16.getD 19 undef)), (1600020, .hold (.l cU v14) (T16.getD 20 undef)), (1600021, .hold (.i s4.1) (T16.getD 21 undef)), (1600022, .hold (.i v11) (T16.getD 22 undef)), (1600023, .hold (.i ((w64 (s4.1 + v11)))) (T16.getD 23 undef)), (1600024, .hold (.i ((w64 ((w64 (s4.1 + v11)) + 2)))) (T16.getD 24 undef)), (1099999, .sus g0.w.heap.size ds10), (1099998, .lp b10 ((busy L10))), (1000000, .hold (.l cU a0) (T10.getD 0 undef)), (1000002, .hold (.ptr 2 0) (T10.getD 2 undef)), (1000003, .hold (.ptr 3 0) (T10.getD 3 undef)), (1000004, .hold (.ptr 4 0) (T10.getD 4 undef)), (1000005, .hold (.ptr 5 0) (T10.getD 5 undef)), (1000006, .hold (.ptr 6 0) (T10.getD 6 undef)), (1000007, .hold (.ptr 7 0) (T10.getD 7 undef)), (1000017, .hold (.fn (.func 57) [] [.ptr 1 0]) (T10.getD 17 undef)), (1, .cells [.l cU a0]), (7, .cells [.i ((w64 ((w64 (s4.1 + v11)) + 2)))]), (1006, .row 5 false 1 (List.map cU s4.2.2)), (6, .cells [.hs 1006 0]), (5, .cells [.i 0, .i 0]), (4, .cells [.bo false]), (3, .cells [.i 0]), (2, .cells [.l cU ([])])]), ([false, false, true, true, false, false, false, false], [(6, .ptr 6 0), (8, .l cU v14), (33, .hs 1033 0), (34, .l cU (([(46 : UInt8)] : List UInt8)))], [(1699999, .sus g0.w.heap.size ds16), (1600000, .hold (.fn (.yield b10) [] []) (T16.getD 0 undef)), (1600001, .hold (.ptr 1 0) (T16.getD 1 undef)), (1600003, .hold (.i s4.1) (T16.getD 3 undef)), (1600004, .hold (.i v11) (T16.getD 4 undef)), (1600013, .hold (.bo (decide (v11 < 0))) (T16.getD 13 undef)), (1600014, .hold (.fn (.yield b10) [] []) (T16.getD 14 undef)), (1600015, .hold (.l cU a0) (T16.getD 15 undef)), (1600016, .hold (.i s4.1) (T16.getD 16 undef)), (1600017, .hold (.i s4.1) (T16.getD 17 undef)), (1600018, .hold (.i v11) (T16.getD 18 undef)), (1600019, .hold (.i ((w64 (s4.1 + v11)))) (T16.getD 19 undef)), (1600020, .hold (.l cU v14) (T16.getD 20 undef)), (1600021, .hold (.i s4.1) (T16.getD 21 undef)), (1600022, .hold (.i v11) (T16.getD 22 undef)), (1600023, .hold (.i ((w64 (s4.1 + v11)))) (T16.getD 23 undef)), (1600024, .hold (.i ((w64 ((w64 (s4.1 + v11)) + 2)))) (T16.getD 24 undef)), (1099999, .sus g0.w.heap.size ds10), (1099998, .lp b10 ((busy L10))), (1000000, .hold (.l cU a0) (T10.getD 0 undef)), (1000002, .hold (.ptr 2 0) (T10.getD 2 undef)), (1000003, .hold (.ptr 3 0) (T10.getD 3 undef)), (1000004, .hold (.ptr 4 0) (T10.getD 4 undef)), (1000005, .hold (.ptr 5 0) (T10.getD 5 undef)), (1000006, .hold (.ptr 6 0) (T10.getD 6 undef)), (1000007, .hold (.ptr 7 0) (T10.getD 7 undef)), (1000017, .hold (.fn (.func 57) [] [.ptr 1 0]) (T10.getD 17 undef)), (1, .cells [.l cU a0]), (7, .cells [.i ((w64 ((w64 (s4.1 + v11)) + 2)))]), (1006, .row 5 false 1 (List.map cU s4.2.2)), (6, .cells [.hs 1006 0]), (5, .cells [.i 0, .i 0]), (4, .cells [.bo false]), (3, .cells [.i 0]), (2, .cells [.l cU ([])])]), ([true, true, true, false, false, false, false, false], [(6, .ptr 6 0), (8, .l cU v14), (31, .hs 1006 0), (32, .l cU v14), (33, .hs 1033 0)], [(1033, .row 5 true 1 (List.map cU (([(46 : UInt8)] : List UInt8)))), (1699999, .sus g0.w.heap.size ds16), (1600000, .hold (.fn (.yield b10) [] []) (T16.getD 0 undef)), (1600001, .hold (.ptr 1 0) (T16.getD 1 undef)), (1600003, .hold (.i s4.1) (T16.getD 3 undef)), (1600004, .hold (.i v11) (T16.getD 4 undef)), (1600013, .hold (.bo (decide (v11 < 0))) (T16.getD 13 undef)), (1600014, .hold (.fn (.yield b10) [] []) (T16.getD 14 undef)), (1600015, .hold (.l cU a0) (T16.getD 15 undef)), (1600016, .hold (.i s4.1) (T16.getD 16 undef)), (1600017, .hold (.i s4.1) (T16.getD 17 undef)), (1600018, .hold (.i v11) (T16.getD 18 undef)), (1600019, .hold (.i ((w64 (s4.1 + v11)))) (T16.getD 19 undef)), (1600020, .hold (.l cU v14) (T16.getD 20 undef)), (1600021, .hold (.i s4.1) (T16.getD 21 undef)), (1600022, .hold (.i v11) (T16.getD 22 undef)), (1600023, .hold (.i ((w64 (s4.1 + v11)))) (T16.getD 23 undef)), (1600024, .hold (.i ((w64 ((w64 (s4.1 + v11)) + 2)))) (T16.getD 24 undef)), (1099999, .sus g0.w.heap.size ds10), (1099998, .lp b10 ((busy L10))), (1000000, .hold (.l cU a0) (T10.getD 0 undef)), (1000002, .hold (.ptr 2 0) (T10.getD 2 undef)), (1000003, .hold (.ptr 3 0) (T10.getD 3 undef)), (1000004, .hold (.ptr 4 0) (T10.getD 4 undef)), (1000005, .hold (.ptr 5 0) (T10.getD 5 undef)), (1000006, .hold (.ptr 6 0) (T10.getD 6 undef)), (1000007, .hold (.ptr 7 0) (T10.getD 7 undef)), (1000017, .hold (.fn (.func 57) [] [.ptr 1 0]) (T10.getD 17 undef)), (1, .cells [.l cU a0]), (7, .cells [.i ((w64 ((w64 (s4.1 + v11)) + 2)))]), (1006, .row 5 false 1 (List.map cU s4.2.2)), (6, .cells [.hs 1006 0]), (5, .cells [.i 0, .i 0]), (4, .cells [.bo false]), (3, .cells [.i 0]), (2, .cells [.l cU ([])])]), ([true, false, true, true, false, false, false, false], [(6, .ptr 6 0), (8, .l cU v14), (31, .hs 1006 0), (33, .hs 1033 0), (34, .l cU (([(46 : UInt8)] : List UInt8)))], [(1699999, .sus g0.w.heap.size ds16), (1600000, .hold (.fn (.yield b10) [] []) (T16.getD 0 undef)), (1600001, .hold (.ptr 1 0) (T16.getD 1 undef)), (1600003, .hold (.i s4.1) (T16.getD 3 undef)), (1600004, .hold (.i v11) (T16.getD 4 undef)), (1600013, .hold (.bo (decide (v11 < 0))) (T16.getD 13 undef)), (1600014, .hold (.fn (.yield b10) [] []) (T16.getD 14 undef)), (1600015, .hold (.l cU a0) (T16.getD 15 undef)), (1600016, .hold (.i s4.1) (T16.getD 16 undef)), (1600017, .hold (.i s4.1) (T16.getD 17 undef)), (1600018, .hold (.i v11) (T16.getD 18 undef)), (1600019, .hold (.i ((w64 (s4.1 + v11)))) (T16.getD 19 undef)), (1600020, .hold (.l cU v14) (T16.getD 20 undef)), (1600021, .hold (.i s4.1) (T16.getD 21 undef)), (1600022, .hold (.i v11) (T16.getD 22 undef)), (1600023, .hold (.i ((w64 (s4.1 + v11)))) (T16.getD 23 undef)), (1600024, .hold (.i ((w64 ((w64 (s4.1 + v11)) + 2)))) (T16.getD 24 undef)), (1099999, .sus g0.w.heap.size ds10), (1099998, .lp b10 ((busy L10))), (1000000, .hold (.l cU a0) (T10.getD 0 undef)), (1000002, .hold (.ptr 2 0) (T10.getD 2 undef)), (1000003, .hold (.ptr 3 0) (T10.getD 3 undef)), (1000004, .hold (.ptr 4 0) (T10.getD 4 undef)), (1000005, .hold (.ptr 5 0) (T10.getD 5 undef)), (1000006, .hold (.ptr 6 0) (T10.getD 6 undef)), (1000007, .hold (.ptr 7 0) (T10.getD 7 undef)), (1000017, .hold (.fn (.func 57) [] [.ptr 1 0]) (T10.getD 17 undef)), (1, .cells [.l cU a0]), (7, .cells [.i ((w64 ((w64 (s4.1 + v11)) + 2)))]), (1006, .row 5 false 1 (List.map cU s4.2.2)), (6, .cells [.hs 1006 0]), (5, .cells [.i 0, .i 0]), (4, .cells [.bo false]), (3, .cells [.i 0]), (2, .cells [.l cU ([])])]), ([false, true, true, true, false, false, false, false], [(6, .ptr 6 0), (8, .l cU v14), (32, .l cU v14), (33, .hs 1033 0), (34, .l cU (([(46 : UInt8)] : List UInt8)))], [(1699999, .sus g0.w.heap.size ds16), (1600000, .hold (.fn (.yield b10) [] []) (T16.getD 0 undef)), (1600001, .hold (.ptr 1 0) (T16.getD 1 undef)), (1600003, .hold (.i s4.1) (T16.getD 3 undef)), (1600004, .hold (.i v11) (T16.getD 4 undef)), (1600013, .hold (.bo (decide (v11 < 0))) (T16.getD 13 undef)), (1600014, .hold (.fn (.yield b10) [] []) (T16.getD 14 undef)), (1600015, .hold (.l cU a0) (T16.getD 15 undef)), (1600016, .hold (.i s4.1) (T16.getD 16 undef)), (1600017, .hold (.i s4.1) (T16.getD 17 undef)), (1600018, .hold (.i v11) (T16.getD 18 undef)), (1600019, .hold (.i ((w64 (s4.1 + v11)))) (T16.getD 19 undef)), (1600020, .hold (.l cU v14) (T16.getD 20 undef)), (1600021, .hold (.i s4.1) (T16.getD 21 undef)), (1600022, .hold (.i v11) (T16.getD 22 undef)), (1600023, .hold (.i ((w64 (s4.1 + v11)))) (T16.getD 23 undef)), (1600024, .hold (.i ((w64 ((w64 (s4.1 + v11)) + 2)))) (T16.getD 24 undef)), (1099999, .sus g0.w.heap.size ds10), (1099998, .lp b10 ((busy L10))), (1000000, .hold (.l cU a0) (T10.getD 0 undef)), (1000002, .hold (.ptr 2 0) (T10.getD 2 undef)), (1000003, .hold (.ptr 3 0) (T10.getD 3 undef)), (1000004, .hold (.ptr 4 0) (T10.getD 4 undef)), (1000005, .hold (.ptr 5 0) (T10.getD 5 undef)), (1000006, .hold (.ptr 6 0) (T10.getD 6 undef)), (1000007, .hold (.ptr 7 0) (T10.getD 7 undef)), (1000017, .hold (.fn (.func 57) [] [.ptr 1 0]) (T10.getD 17 undef)), (1, .cells [.l cU a0]), (7, .cells [.i ((w64 ((w64 (s4.1 + v11)) + 2)))]), (1006, .row 5 false 1 (List.map cU s4.2.2)), (6, .cells [.hs 1006 0]), (5, .cells [.i 0, .i 0]), (4, .cells [.bo false]), (3, .cells [.i 0]), (2, .cells [.l cU ([])])]), ([true, true, true, true, false, false, false, false], [(6, .ptr 6 0), (8, .l cU v14), (31, .hs 1006 0), (32, .l cU v14), (33, .hs 1033 0), (34, .l cU (([(46 : UInt8)] : List UInt8)))], [(1699999, .sus g0.w.heap.size ds16), (1600000, .hold (.fn (.yield b10) [] []) (T16.getD 0 undef)), (1600001, .hold (.ptr 1 0) (T16.getD 1 undef)), (1600003, .hold (.i s4.1) (T16.getD 3 undef)), (1600004, .hold (.i v11) (T16.getD 4 undef)), (1600013, .hold (.bo (decide (v11 < 0))) (T16.getD 13 undef)), (1600014, .hold (.fn (.yield b10) [] []) (T16.getD 14 undef)), (1600015, .hold (.l cU a0) (T16.getD 15 undef)), (1600016, .hold (.i s4.1) (T16.getD 16 undef)), (1600017, .hold (.i s4.1) (T16.getD 17 undef)), (1600018, .hold (.i v11) (T16.getD 18 undef)), (1600019, .hold (.i ((w64 (s4.1 + v11)))) (T16.getD 19 undef)), (1600020, .hold (.l cU v14) (T16.getD 20 undef)), (1600021, .hold (.i s4.1) (T16.getD 21 undef)), (1600022, .hold (.i v11) (T16.getD 22 undef)), (1600023, .hold (.i ((w64 (s4.1 + v11)))) (T16.getD 23 undef)), (1600024, .hold (.i ((w64 ((w64 (s4.1 + v11)) + 2)))) (T16.getD 24 undef)), (1099999, .sus g0.w.heap.size ds10), (1099998, .lp b10 ((busy L10))), (1000000, .hold (.l cU a0) (T10.getD 0 undef)), (1000002, .hold (.ptr 2 0) (T10.getD 2 undef)), (1000003, .hold (.ptr 3 0) (T10.getD 3 undef)), (1000004, .hold (.ptr 4 0) (T10.getD 4 undef)), (1000005, .hold (.ptr 5 0) (T10.getD 5 undef)), (1000006, .hold (.ptr 6 0) (T10.getD 6 undef)), (1000007, .hold (.ptr 7 0) (T10.getD 7 undef)), (1000017, .hold (.fn (.func 57) [] [.ptr 1 0]) (T10.getD 17 undef)), (1, .cells [.l cU a0]), (7, .cells [.i ((w64 ((w64 (s4.1 + v11)) + 2)))]), (1006, .row 5 false 1 (List.map cU s4.2.2)), (6, .cells [.hs 1006 0]), (5, .cells [.i 0, .i 0]), (4, .cells [.bo false]), (3, .cells [.i 0]), (2, .cells [.l cU ([])])]), ([false, true, true, true, true, false, false, false], [(6, .ptr 6 0), (8, .l cU v14), (32, .l cU v14), (33, .hs 1033 0), (34, .l cU (([(46 : UInt8)] : List UInt8))), (35, .l cU v22)], [(1699999, .sus g0.w.heap.size ds16), (1600000, .hold (.fn (.yield b10) [] []) (T16.getD 0 undef)), (1600001, .hold (.ptr 1 0) (T16.getD 1 undef)), (1600003, .hold (.i s4.1) (T16.getD 3 undef)), (1600004, .hold (.i v11) (T16.getD 4 undef)), (1600013, .hold (.bo (decide (v11 < 0))) (T16.getD 13 undef)), (1600014, .hold (.fn (.yield b10) [] []) (T16.getD 14 undef)), (1600015, .hold (.l cU a0) (T16.getD 15 undef)), (1600016, .hold (.i s4.1) (T16.getD 16 undef)), (1600017, .hold (.i s4.1) (T16.getD 17 undef)), (1600018, .hold (.i v11) (T16.getD 18 undef)), (1600019, .hold (.i ((w64 (s4.1 + v11)))) (T16.getD 19 undef)), (1600020, .hold (.l cU v14) (T16.getD 20 undef)), (1600021, .hold (.i s4.1) (T16.getD 21 undef)), (1600022, .hold (.i v11) (T16.getD 22 undef)), (1600023, .hold (.i ((w64 (s4.1 + v11)))) (T16.getD 23 undef)), (1600024, .hold (.i ((w64 ((w64 (s4.1 + v11)) + 2)))) (T16.getD 24 undef)), (1099999, .sus g0.w.heap.size ds10), (1099998, .lp b10 ((busy L10))), (1000000, .hold (.l cU a0) (T10.getD 0 undef)), (1000002, .hold (.ptr 2 0) (T10.getD 2 undef)), (1000003, .hold (.ptr 3 0) (T10.getD 3 undef)), (1000004, .hold (.ptr 4 0) (T10.getD 4 undef)), (1000005, .hold (.ptr 5 0) (T10.getD 5 undef)), (1000006, .hold (.ptr 6 0) (T10.getD 6 undef)), (1000007, .hold (.ptr 7 0) (T10.getD 7 undef)), (1000017, .hold (.fn (.func 57) [] [.ptr 1 0]) (T10.getD 17 undef)), (1, .cells [.l cU a0]), (7, .cells [.i ((w64 ((w64 (s4.1 + v11)) + 2)))]), (1006, .row 5 false 1 (List.map cU s4.2.2)), (6, .cells [.hs 1006 0]), (5, .cells [.i 0, .i 0]), (4, .cells [.bo false]), (3, .cells [.i 0]), (2, .cells [.l cU ([])])]), ([true, true, true, true, true, false, false, false], [(6, .ptr 6 0), (8, .l cU v14), (31, .hs 1006 0), (32, .l cU v14), (33, .hs 1033 0), (34, .l cU (([(46 : UInt8)] : List UInt8))), (35, .l cU v22)], [(1699999, .sus g0.w.heap.size ds16), (1600000, .hold (.fn (.yield b10) [] []) (T16.getD 0 undef)), (1600001, .hold (.ptr 1 0) (T16.getD 1 undef)), (1600003, .hold (.i s4.1) (T16.getD 3 undef)), (1600004, .hold (.i v11) (T16.getD 4 undef)), (1600013, .hold (.bo (decide (v11 < 0))) (T16.getD 13 undef)), (1600014, .hold (.fn (.yield b10) [] []) (T16.getD 14 undef)), (1600015, .hold (.l cU a0) (T16.getD 15 undef)), (1600016, .hold (.i s4.1) (T16.getD 16 undef)), (1600017, .hold (.i s4.1) (T16.getD 17 undef)), (1600018, .hold (.i v11) (T16.getD 18 undef)), (1600019, .hold (.i ((w64 (s4.1 + v11)))) (T16.getD 19 undef)), (1600020, .hold (.l cU v14) (T16.getD 20 undef)), (1600021, .hold (.i s4.1) (T16.getD 21 undef)), (1600022, .hold (.i v11) (T16.getD 22 undef)), (1600023, .hold (.i ((w64 (s4.1 + v11)))) (T16.getD 23 undef)), (1600024, .hold (.i ((w64 ((w64 (s4.1 + v11)) + 2)))) (T16.getD 24 undef)), (1099999, .sus g0.w.heap.size ds10), (1099998, .lp b10 ((busy L10))), (1000000, .hold (.l cU a0) (T10.getD 0 undef)), (1000002, .hold (.ptr 2 0) (T10.getD 2 undef)), (1000003, .hold (.ptr 3 0) (T10.getD 3 undef)), (1000004, .hold (.ptr 4 0) (T10.getD 4 undef)), (1000005, .hold (.ptr 5 0) (T10.getD 5 undef)), (1000006, .hold (.ptr 6 0) (T10.getD 6 undef)), (1000007, .hold (.ptr 7 0) (T10.getD 7 undef)), (1000017, .hold (.fn (.func 57) [] [.ptr 1 0]) (T10.getD 17 undef)), (1, .cells [.l cU a0]), (7, .cells [.i ((w64 ((w64 (s4.1 + v11)) + 2)))]), (1006, .row 5 false 1 (List.map cU s4.2.2)), (6, .cells [.hs 1006 0]), (5, .cells [.i 0, .i 0]), (4, .cells [.bo false]), (3, .cells [.i 0]), (2, .cells [.l cU ([])])]), ([true, true, true, true, true, true, false, false], [(6, .ptr 6 0), (8, .l cU v14), (32, .l cU v14), (33, .hs 1033 0), (34, .l cU (([(46 : UInt8)] : List UInt8))), (35, .l cU v22), (36, .hs 1006 0)], [(1699999, .sus g0.w.heap.size ds16), (1600000, .hold (.fn (.yield b10) [] []) (T16.getD 0 undef)), (1600001, .hold (.ptr 1 0) (T16.getD 1 undef)), (1600003, .hold (.i s4.1) (T16.getD 3 undef)), (1600004, .hold (.i v11) (T16.getD 4 undef)), (1600013, .hold (.bo (decide (v11 < 0))) (T16.getD 13 undef)), (1600014, .hold (.fn (.yield b10) [] []) (T16.getD 14 undef)), (1600015, .hold (.l cU a0) (T16.getD 15 undef)), (1600016, .hold (.i s4.1) (T16.getD 16 undef)), (1600017, .hold (.i s4.1) (T16.getD 17 undef)), (1600018, .hold (.i v11) (T16.getD 18 undef)), (1600019, .hold (.i ((w64 (s4.1 + v11)))) (T16.getD 19 undef)), (1600020, .hold (.l cU v14) (T16.getD 20 undef)), (1600021, .hold (.i s4.1) (T16.getD 21 undef)), (1600022, .hold (.i v11) (T16.getD 22 undef)), (1600023, .hold (.i ((w64 (s4.1 + v11)))) (T16.getD 23 undef)), (1600024, .hold (.i ((w64 ((w64 (s4.1 + v11)) + 2)))) (T16.getD 24 undef)), (1099999, .sus g0.w.heap.size ds10), (1099998, .lp b10 ((busy L10))), (1000000, .hold (.l cU a0) (T10.getD 0 undef)), (1000002, .hold (.ptr 2 0) (T10.getD 2 undef)), (1000003, .hold (.ptr 3 0) (T10.getD 3 undef)), (1000004, .hold (.ptr 4 0) (T10.getD 4 undef)), (1000005, .hold (.ptr 5 0) (T10.getD 5 undef)), (1000006, .hold (.ptr 6 0) (T10.getD 6 undef)), (1000007, .hold (.ptr 7 0) (T10.getD 7 undef)), (1000017, .hold (.fn (.func 57) [] [.ptr 1 0]) (T10.getD 17 undef)), (1, .cells [.l cU a0]), (7, .cells [.i ((w64 ((w64 (s4.1 + v11)) + 2)))]), (1006, .row 5 false 1 (List.map cU v24)), (6, .cells [.any]), (5, .cells [.i 0, .i 0]), (4, .cells [.bo false]), (3, .cells [.i 0]), (2, .cells [.l cU ([])])]), ([true, true, true, true, true, true, true, false], [(6, .ptr 6 0), (8, .l cU v14), (32, .l cU v14), (33, .hs 1033 0), (34, .l cU (([(46 : UInt8)] : List UInt8))), (35, .l cU v22), (37, .hs 1006 0)], [(1699999, .sus g0.w.heap.size ds16), (1600000, .hold (.fn (.yield b10) [] []) (T16.getD 0 undef)), (1600001, .hold (.ptr 1 0) (T16.getD 1 undef)), (1600003, .hold (.i s4.1) (T16.getD 3 undef)), (1600004, .hold (.i v11) (T16.getD 4 undef)), (1600013, .hold (.bo (decide (v11 < 0))) (T16.getD 13 undef)), (1600014, .hold (.fn (.yield b10) [] []) (T16.getD 14 undef)), (1600015, .hold (.l cU a0) (T16.getD 15 undef)), (1600016, .hold (.i s4.1) (T16.getD 16 undef)), (1600017, .hold (.i s4.1) (T16.getD 17 undef)), (1600018, .hold (.i v11) (T16.getD 18 undef)), (1600019, .hold (.i ((w64 (s4.1 + v11)))) (T16.getD 19 undef)), (1600020, .hold (.l cU v14) (T16.getD 20 undef)), (1600021, .hold (.i s4.1) (T16.getD 21 undef)), (1600022, .hold (.i v11) (T16.getD 22 undef)), (1600023, .hold (.i ((w64 (s4.1 + v11)))) (T16.getD 23 undef)), (1600024, .hold (.i ((w64 ((w64 (s4.1 + v11)) + 2)))) (T16.getD 24 undef)), (1099999, .sus g0.w.heap.size ds10), (1099998, .lp b10 ((busy L10))), (1000000, .hold (.l cU a0) (T10.getD 0 undef)), (1000002, .hold (.ptr 2 0) (T10.getD 2 undef)), (1000003, .hold (.ptr 3 0) (T10.getD 3 undef)), (1000004, .hold (.ptr 4 0) (T10.getD 4 undef)), (1000005, .hold (.ptr 5 0) (T10.getD 5 undef)), (1000006, .hold (.ptr 6 0) (T10.getD 6 undef)), (1000007, .hold (.ptr 7 0) (T10.getD 7 undef)), (1000017, .hold (.fn (.func 57) [] [.ptr 1 0]) (T10.getD 17 undef)), (1, .cells [.l cU a0]), (7, .cells [.i ((w64 ((w64 (s4.1 + v11)) + 2)))]), (1006, .row 5 false 1 (List.map cU v26)), (6, .cells [.any]), (5, .cells [.i 0, .i 0]), (4, .cells [.bo false]), (3, .cells [.i 0]), (2, .cells [.l cU ([])])]), ([true, true, true, true, true, true, true, true], [(6, .ptr 6 0), (8, .l cU v14), (32, .l cU v14), (33, .hs 1033 0), (34, .l cU (([(46 : UInt8)] : List UInt8))), (35, .l cU v22), (37, .hs 1006 0)], [(1699999, .sus g0.w.heap.size ds16), (1600000, .hold (.fn (.yield b10) [] []) (T16.getD 0 undef)), (1600001, .hold (.ptr 1 0) (T16.getD 1 undef)), (1600003, .hold (.i s4.1) (T16.getD 3 undef)), (1600004, .hold (.i v11) (T16.getD 4 undef)), (1600013, .hold (.bo (decide (v11 < 0))) (T16.getD 13 undef)), (1600014, .hold (.fn (.yield b10) [] []) (T16.getD 14 undef)), (1600015, .hold (.l cU a0) (T16.getD 15 undef)), (1600016, .hold (.i s4.1) (T16.getD 16 undef)), (1600017, .hold (.i s4.1) (T16.getD 17 undef)), (1600018, .hold (.i v11) (T16.getD 18 undef)), (1600019, .hold (.i ((w64 (s4.1 + v11)))) (T16.getD 19 undef)), (1600020, .hold (.l cU v14) (T16.getD 20 undef)), (1600021, .hold (.i s4.1) (T16.getD 21 undef)), (1600022, .hold (.i v11) (T16.getD 22 undef)), (1600023, .hold (.i ((w64 (s4.1 + v11)))) (T16.getD 23 undef)), (1600024, .hold (.i ((w64 ((w64 (s4.1 + v11)) + 2)))) (T16.getD 24 undef)), (1099999, .sus g0.w.heap.size ds10), (1099998, .lp b10 ((busy L10))), (1000000, .hold (.l cU a0) (T10.getD 0 undef)), (1000002, .hold (.ptr 2 0) (T10.getD 2 undef)), (1000003, .hold (.ptr 3 0) (T10.getD 3 undef)), (1000004, .hold (.ptr 4 0) (T10.getD 4 undef)), (1000005, .hold (.ptr 5 0) (T10.getD 5 undef)), (1000006, .hold (.ptr 6 0) (T10.getD 6 undef)), (1000007, .hold (.ptr 7 0) (T10.getD 7 undef)), (1000017, .hold (.fn (.func 57) [] [.ptr 1 0]) (T10.getD 17 undef)), (1, .cells [.l cU a0]), (7, .cells [.i ((w64 ((w64 (s4.1 + v11)) + 2)))]), (1006, .row 5 false 1 (List.map cU v26)), (6, .cells [.hs 1006 0]), (5, .cells [.i 0, .i 0]), (4, .cells [.bo false]), (3, .cells [.i 0]), (2, .cells [.l cU ([])])])] mixed (by kernel_rfl) rfl rfl (frLe_cons rfl (frLe_cons rfl frLe_nil)) (stoLe_cons rfl (stoLe_cons rfl (stoLe_cons rfl (stoLe_cons rfl (stoLe_cons rfl (stoLe_cons rfl (stoLe_cons rfl (stoLe_cons rfl (stoLe_cons rfl (stoLe_cons rfl (stoLe_cons rfl (stoLe_cons rfl (stoLe_cons rfl (stoLe_cons rfl (stoLe_cons rfl (stoLe_cons rfl (stoLe_cons rfl (stoLe_cons rfl (stoLe_cons rfl (stoLe_cons rfl (stoLe_cons rfl (stoLe_cons rfl (stoLe_cons rfl (stoLe_cons rfl (stoLe_cons rfl (stoLe_cons rfl (stoLe_cons rfl (stoLe_cons rfl (stoLe_cons rfl (stoLe_cons rfl (stoLe_cons rfl (stoLe_cons rfl (stoLe_cons rfl (stoLe_cons rfl (stoLe_cons rfl stoLe_nil))))))))))))))))))))))))))))))))))) (.cons (.step [0, 1, 2] (by kernel_rfl) rfl (.cons (.yes 1 rfl (wanted_plain rfl) (opTo_q (d := 31) rfl rfl (ev_load rfl rfl ty_s_uint8 rfl rfl)) rfl (frLe_cons rfl (frLe_cons rfl (frLe_cons rfl frLe_nil))) (stoLe_cons rfl (stoLe_cons rfl (stoLe_cons rfl (stoLe_cons rfl (stoLe_cons rfl (stoLe_cons rfl (stoLe_cons rfl (stoLe_cons rfl (stoLe_cons rfl (stoLe_cons rfl (stoLe_cons rfl (stoLe_cons rfl (stoLe_cons rfl (stoLe_cons rfl (stoLe_cons rfl (stoLe_cons rfl (stoLe_cons rfl (stoLe_cons rfl (stoLe_cons rfl (stoLe_cons rfl (stoLe_cons rfl (stoLe_cons rfl (stoLe_cons rfl (stoLe_cons rfl (stoLe_cons rfl (stoLe_cons rfl (stoLe_cons rfl (stoLe_cons rfl (stoLe_cons rfl (stoLe_cons rfl (stoLe_cons rfl (stoLe_cons rfl (stoLe_cons rfl (stoLe_cons rfl (stoLe_cons rfl stoLe_nil)))))))))))))))))))))))))))))))))))) (.cons (.yes 2 rfl (wanted_plain rfl) (opTo_q (d := 32) rfl rfl ev_move) rfl (frLe_cons rfl (frLe_cons rfl (frLe_cons rfl frLe_nil))) (stoLe_cons rfl (stoLe_cons rfl (stoLe_cons rfl (stoLe_cons rfl (stoLe_cons rfl (stoLe_cons rfl (stoLe_cons rfl (stoLe_cons rfl (stoLe_cons rfl (stoLe_cons rfl (stoLe_cons rfl (stoLe_cons rfl (stoLe_cons rfl (stoLe_cons rfl (stoLe_cons rfl (stoLe_cons rfl (stoLe_cons rfl (stoLe_cons rfl (stoLe_cons rfl (stoLe_cons rfl (stoLe_cons rfl (stoLe_cons rfl (stoLe_cons rfl (stoLe_cons rfl (stoLe_cons rfl (stoLe_cons rfl (stoLe_cons rfl (stoLe_cons rfl (stoLe_cons rfl (stoLe_cons rfl (stoLe_cons rfl (stoLe_cons rfl (stoLe_cons rfl (stoLe_cons rfl (stoLe_cons rfl stoLe_nil)))))))))))))))))))))))))))))))))))) (.cons (.yes 3 rfl (wanted_plain rfl) (opTo_litrow (k := 33) (F := cU) (l := ([(46 : UInt8)] : List UInt8)) 1033 rfl rfl rfl ty_s_uint8 ty_uint8 rfl (fun _ => rfl) rfl rfl) rfl (frLe_cons rfl (frLe_cons rfl (frLe_cons rfl frLe_nil))) (stoLe_cons rfl (stoLe_cons rfl (stoLe_cons rfl (stoLe_cons rfl (stoLe_cons rfl (stoLe_cons rfl (stoLe_cons rfl (stoLe_cons rfl (stoLe_cons rfl (stoLe_cons rfl (stoLe_cons rfl (stoLe_cons rfl (stoLe_cons rfl (stoLe_cons rfl (stoLe_cons rfl (stoLe_cons rfl (stoLe_cons rfl (stoLe_cons rfl (stoLe_cons rfl (stoLe_cons rfl (stoLe_cons rfl (stoLe_cons rfl (stoLe_cons rfl (stoLe_cons rfl (stoLe_cons rfl (stoLe_cons rfl (stoLe_cons rfl (stoLe_cons rfl (stoLe_cons rfl (stoLe_cons rfl (stoLe_cons rfl (stoLe_cons rfl (stoLe_cons rfl (stoLe_cons rfl (stoLe_cons rfl (stoLe_cons rfl stoLe_nil))))))))))))))))))))))))))))))))))))) .nil)))) (.cons (.step [1, 2] (by kernel_rfl) rfl (.cons (.yes 4 rfl (wanted_plain rfl) (opTo_q (d := 32) rfl rfl ev_move) rfl (frLe_cons rfl (frLe_cons rfl (frLe_cons rfl (frLe_cons rfl frLe_nil)))) (stoLe_cons rfl (stoLe_cons rfl (stoLe_cons rfl (stoLe_cons rfl (stoLe_cons rfl (stoLe_cons rfl (stoLe_cons rfl (stoLe_cons rfl (stoLe_cons rfl (stoLe_cons rfl (stoLe_cons rfl (stoLe_cons rfl (stoLe_cons rfl (stoLe_cons rfl (stoLe_cons rfl (stoLe_cons rfl (stoLe_cons rfl (stoLe_cons rfl (stoLe_cons rfl (stoLe_cons rfl (stoLe_cons rfl (stoLe_cons rfl (stoLe_cons rfl (stoLe_cons rfl (stoLe_cons rfl (stoLe_cons rfl (stoLe_cons rfl (stoLe_cons rfl (stoLe_cons rfl (stoLe_cons rfl (stoLe_cons rfl (stoLe_cons rfl (stoLe_cons rfl (stoLe_cons rfl (stoLe_cons rfl stoLe_nil)))))))))))))))))))))))))))))))))))) (.cons (.yes 5 rfl (wanted_plain rfl) (opTo_litrow (k := 33) (F := cU) (l := ([(46 : UInt8)] : List UInt8)) 1033 rfl rfl rfl ty_s_uint8 ty_uint8 rfl (fun _ => rfl) rfl rfl) rfl (frLe_cons rfl (frLe_cons rfl (frLe_cons rfl (frLe_cons rfl frLe_nil)))) (stoLe_cons rfl (stoLe_cons rfl (stoLe_cons rfl (stoLe_cons rfl (stoLe_cons rfl (stoLe_cons rfl (stoLe_cons rfl (stoLe_cons rfl (stoLe_cons rfl (stoLe_cons rfl (stoLe_cons rfl (stoLe_cons rfl (stoLe_cons rfl (stoLe_cons rfl (stoLe_cons rfl (stoLe_cons rfl (stoLe_cons rfl (stoLe_cons rfl (stoLe_cons rfl (stoLe_cons rfl (stoLe_cons rfl (stoLe_cons rfl (stoLe_cons rfl (stoLe_cons rfl (stoLe_cons rfl (stoLe_cons rfl (stoLe_cons rfl (stoLe_cons rfl (stoLe_cons rfl (stoLe_cons rfl (stoLe_cons rfl (stoLe_cons rfl (stoLe_cons rfl (stoLe_cons rfl (stoLe_cons rfl (stoLe_cons rfl stoLe_nil))))))))))))))))))))))))))))))))))))) .nil))) (.cons (.step [0, 2] (by kernel_rfl) rfl (.cons (.yes 4 rfl (wanted_plain rfl) (opTo_q (d := 31) rfl rfl (ev_load rfl rfl ty_s_uint8 rfl rfl)) rfl (frLe_cons rfl (frLe_cons rfl (frLe_cons rfl (frLe_cons rfl frLe_nil)))) (stoLe_cons rfl (stoLe_cons rfl (stoLe_cons rfl (stoLe_cons rfl (stoLe_cons rfl (stoLe_cons rfl (stoLe_cons rfl (stoLe_cons rfl (stoLe_cons rfl (stoLe_cons rfl (stoLe_cons rfl (stoLe_cons rfl (stoLe_cons rfl (stoLe_cons rfl (stoLe_cons rfl (stoLe_cons rfl (stoLe_cons rfl (stoLe_cons rfl (stoLe_cons rfl (stoLe_cons rfl (stoLe_cons rfl (stoLe_cons rfl (stoLe_cons rfl (stoLe_cons rfl (stoLe_cons rfl (stoLe_cons rfl (stoLe_cons rfl (stoLe_cons rfl (stoLe_cons rfl (stoLe_cons rfl (stoLe_cons rfl (stoLe_cons rfl (stoLe_cons rfl (stoLe_cons rfl (stoLe_cons rfl stoLe_nil)))))))))))))))))))))))))))))))))))) (.cons (.yes 6 rfl (wanted_plain rfl) (opTo_litrow (k := 33) (F := cU) (l := ([(46 : UInt8)] : List UInt8)) 1033 rfl rfl rfl ty_s_uint8 ty_uint8 rfl (fun _ => rfl) rfl rfl) rfl (frLe_cons rfl (frLe_cons rfl (frLe_cons rfl (frLe_cons rfl frLe_nil)))) (stoLe_cons rfl (stoLe_cons rfl (stoLe_cons rfl (stoLe_cons rfl (stoLe_cons rfl (stoLe_cons rfl (stoLe_cons rfl (stoLe_cons rfl (stoLe_cons rfl (stoLe_cons rfl (stoLe_cons rfl (stoLe_cons rfl (stoLe_cons rfl (stoLe_cons rfl (stoLe_cons rfl (stoLe_cons rfl (stoLe_cons rfl (stoLe_cons rfl (stoLe_cons rfl (stoLe_cons rfl (stoLe_cons rfl (stoLe_cons rfl (stoLe_cons rfl (stoLe_cons rfl (stoLe_cons rfl (stoLe_cons rfl (stoLe_cons rfl (stoLe_cons rfl (stoLe_cons rfl (stoLe_cons rfl (stoLe_cons rfl (stoLe_cons rfl (stoLe_cons rfl (stoLe_cons rfl (stoLe_cons rfl (stoLe_cons rfl stoLe_nil))))))))))))))))))))))))))))))))))))) .nil))) (.cons (.step [0, 1, 3] (by kernel_rfl) rfl (.cons (.yes 5 rfl (wanted_plain rfl) (opTo_q (d := 31) rfl rfl (ev_load rfl rfl ty_s_uint8 rfl rfl)) rfl (frLe_cons rfl (frLe_cons rfl (frLe_cons rfl (frLe_cons rfl frLe_nil)))) (stoLe_cons rfl (stoLe_cons rfl (stoLe_cons rfl (stoLe_cons rfl (stoLe_cons rfl (stoLe_cons rfl (stoLe_cons rfl (stoLe_cons rfl (stoLe_cons rfl (stoLe_cons rfl (stoLe_cons rfl (stoLe_cons rfl (stoLe_cons rfl (stoLe_cons rfl (stoLe_cons rfl (stoLe_cons rfl (stoLe_cons rfl (stoLe_cons rfl (stoLe_cons rfl (stoLe_cons rfl (stoLe_cons rfl (stoLe_cons rfl (stoLe_cons rfl (stoLe_cons rfl (stoLe_cons rfl (stoLe_cons rfl (stoLe_cons rfl (stoLe_cons rfl (stoLe_cons rfl (stoLe_cons rfl (stoLe_cons rfl (stoLe_cons rfl (stoLe_cons rfl (stoLe_cons rfl (stoLe_cons rfl (stoLe_cons rfl stoLe_nil))))))))))))))))))))))))))))))))))))) (.cons (.yes 6 rfl (wanted_plain rfl) (opTo_q (d := 32) rfl rfl ev_move) rfl (frLe_cons rfl (frLe_cons rfl (frLe_cons rfl (frLe_cons rfl frLe_nil)))) (stoLe_cons rfl (stoLe_cons rfl (stoLe_cons rfl (stoLe_cons rfl (stoLe_cons rfl (stoLe_cons rfl (stoLe_cons rfl (stoLe_cons rfl (stoLe_cons rfl (stoLe_cons rfl (stoLe_cons rfl (stoLe_cons rfl (stoLe_cons rfl (stoLe_cons rfl (stoLe_cons rfl (stoLe_cons rfl (stoLe_cons rfl (stoLe_cons rfl (stoLe_cons rfl (stoLe_cons rfl (stoLe_cons rfl (stoLe_cons rfl (stoLe_cons rfl (stoLe_cons rfl (stoLe_cons rfl (stoLe_cons rfl (stoLe_cons rfl (stoLe_cons rfl (stoLe_cons rfl (stoLe_cons rfl (stoLe_cons rfl (stoLe_cons rfl (stoLe_cons rfl (stoLe_cons rfl (stoLe_cons rfl (stoLe_cons rfl stoLe_nil))))))))))))))))))))))))))))))))))))) (.cons (.yes 7 rfl (wanted_plain rfl) (opTo_convrow (l := ([(46 : UInt8)] : List UInt8)) rfl rfl rfl ty_s_uint8 ty_uint8 rfl) rfl (frLe_cons rfl (frLe_cons rfl (frLe_cons rfl (frLe_cons rfl frLe_nil)))) (stoLe_cons rfl (stoLe_cons rfl (stoLe_cons rfl (stoLe_cons rfl (stoLe_cons rfl (stoLe_cons rfl (stoLe_cons rfl (stoLe_cons rfl (stoLe_cons rfl (stoLe_cons rfl (stoLe_cons rfl (stoLe_cons rfl (stoLe_cons rfl (stoLe_cons rfl (stoLe_cons rfl (stoLe_cons rfl (stoLe_cons rfl (stoLe_cons rfl (stoLe_cons rfl (stoLe_cons rfl (stoLe_cons rfl (stoLe_cons rfl (stoLe_cons rfl (stoLe_cons rfl (stoLe_cons rfl (stoLe_cons rfl (stoLe_cons rfl (stoLe_cons rfl (stoLe_cons rfl (stoLe_cons rfl (stoLe_cons rfl (stoLe_cons rfl (stoLe_cons rfl (stoLe_cons rfl (stoLe_cons rfl stoLe_nil)))))))))))))))))))))))))))))))))))) .nil)))) (.cons (.step [2] (by kernel_rfl) rfl (.cons (.yes 8 rfl (wanted_plain rfl) (opTo_litrow (k := 33) (F := cU) (l := ([(46 : UInt8)] : List UInt8)) 1033 rfl rfl rfl ty_s_uint8 ty_uint8 rfl (fun _ => rfl) rfl rfl) rfl (frLe_cons rfl (frLe_cons rfl (frLe_cons rfl (frLe_cons rfl (frLe_cons rfl frLe_nil))))) (stoLe_cons rfl (stoLe_cons rfl (stoLe_cons rfl (stoLe_cons rfl (stoLe_cons rfl (stoLe_cons rfl (stoLe_cons rfl (stoLe_cons rfl (stoLe_cons rfl (stoLe_cons rfl (stoLe_cons rfl (stoLe_cons rfl (stoLe_cons rfl (stoLe_cons rfl (stoLe_cons rfl (stoLe_cons rfl (stoLe_cons rfl (stoLe_cons rfl (stoLe_cons rfl (stoLe_cons rfl (stoLe_cons rfl (stoLe_cons rfl (stoLe_cons rfl (stoLe_cons rfl (stoLe_cons rfl (stoLe_cons rfl (stoLe_cons rfl (stoLe_cons rfl (stoLe_cons rfl (stoLe_cons rfl (stoLe_cons rfl (stoLe_cons rfl (stoLe_cons rfl (stoLe_cons rfl (stoLe_cons rfl (stoLe_cons rfl stoLe_nil))))))))))))))))))))))))))))))))))))) .nil)) (.cons (.step [1, 3] (by kernel_rfl) rfl (.cons (.yes 8 rfl (wanted_plain rfl) (opTo_q (d := 32) rfl rfl ev_move) rfl (frLe_cons rfl (frLe_cons rfl (frLe_cons rfl (frLe_cons rfl (frLe_cons rfl frLe_nil))))) (stoLe_cons rfl (stoLe_cons rfl (stoLe_cons rfl (stoLe_cons rfl (stoLe_cons rfl (stoLe_cons rfl (stoLe_cons rfl (stoLe_cons rfl (stoLe_cons rfl (stoLe_cons rfl (stoLe_cons rfl (stoLe_cons rfl (stoLe_cons rfl (stoLe_cons rfl (stoLe_cons rfl (stoLe_cons rfl (stoLe_cons rfl (stoLe_cons rfl (stoLe_cons rfl (stoLe_cons rfl (stoLe_cons rfl (stoLe_cons rfl (stoLe_cons rfl (stoLe_cons rfl (stoLe_cons rfl (stoLe_cons rfl (stoLe_cons rfl (stoLe_cons rfl (stoLe_cons rfl (stoLe_cons rfl (stoLe_cons rfl (stoLe_cons rfl (stoLe_cons rfl (stoLe_cons rfl (stoLe_cons rfl (stoLe_cons rfl stoLe_nil))))))))))))))))))))))))))))))))))))) (.cons (.yes 9 rfl (wanted_plain rfl) (opTo_convrow (l := ([(46 : UInt8)] : List UInt8)) rfl rfl rfl ty_s_uint8 ty_uint8 rfl) rfl (frLe_cons rfl (frLe_cons rfl (frLe_cons rfl (frLe_cons rfl (frLe_cons rfl frLe_nil))))) (stoLe_cons rfl (stoLe_cons rfl (stoLe_cons rfl (stoLe_cons rfl (stoLe_cons rfl (stoLe_cons rfl (stoLe_cons rfl (stoLe_cons rfl (stoLe_cons rfl (stoLe_cons rfl (stoLe_cons rfl (stoLe_cons rfl (stoLe_cons rfl (stoLe_cons rfl (stoLe_cons rfl (stoLe_cons rfl (stoLe_cons rfl (stoLe_cons rfl (stoLe_cons rfl (stoLe_cons rfl (stoLe_cons rfl (stoLe_cons rfl (stoLe_cons rfl (stoLe_cons rfl (stoLe_cons rfl (stoLe_cons rfl (stoLe_cons rfl (stoLe_cons rfl (stoLe_cons rfl (stoLe_cons rfl (stoLe_cons rfl (stoLe_cons rfl (stoLe_cons rfl (stoLe_cons rfl (stoLe_cons rfl stoLe_nil)))))))))))))))))))))))))))))))))))) .nil))) (.cons (.step [0, 3] (by kernel_rfl) rfl (.cons (.yes 8 rfl (wanted_plain rfl) (opTo_q (d := 31) rfl rfl (ev_load rfl rfl ty_s_uint8 rfl rfl)) rfl (frLe_cons rfl (frLe_cons rfl (frLe_cons rfl (frLe_cons rfl (frLe_cons rfl frLe_nil))))) (stoLe_cons rfl (stoLe_cons rfl (stoLe_cons rfl (stoLe_cons rfl (stoLe_cons rfl (stoLe_cons rfl (stoLe_cons rfl (stoLe_cons rfl (stoLe_cons rfl (stoLe_cons rfl (stoLe_cons rfl (stoLe_cons rfl (stoLe_cons rfl (stoLe_cons rfl (stoLe_cons rfl (stoLe_cons rfl (stoLe_cons rfl (stoLe_cons rfl (stoLe_cons rfl (stoLe_cons rfl (stoLe_cons rfl (stoLe_cons rfl (stoLe_cons rfl (stoLe_cons rfl (stoLe_cons rfl (stoLe_cons rfl (stoLe_cons rfl (stoLe_cons rfl (stoLe_cons rfl (stoLe_cons rfl (stoLe_cons rfl (stoLe_cons rfl (stoLe_cons rfl (stoLe_cons rfl (stoLe_cons rfl (stoLe_cons rfl stoLe_nil))))))))))))))))))))))))))))))))))))) (.cons (.yes 10 rfl (wanted_plain rfl) (opTo_convrow (l := ([(46 : UInt8)] : List UInt8)) rfl rfl rfl ty_s_uint8 ty_uint8 rfl) rfl (frLe_cons rfl (frLe_cons rfl (frLe_cons rfl (frLe_cons rfl (frLe_cons rfl frLe_nil))))) (stoLe_cons rfl (stoLe_cons rfl (stoLe_cons rfl (stoLe_cons rfl (stoLe_cons rfl (stoLe_cons rfl (stoLe_cons rfl (stoLe_cons rfl (stoLe_cons rfl (stoLe_cons rfl (stoLe_cons rfl (stoLe_cons rfl (stoLe_cons rfl (stoLe_cons rfl (stoLe_cons rfl (stoLe_cons rfl (stoLe_cons rfl (stoLe_cons rfl (stoLe_cons rfl (stoLe_cons rfl (stoLe_cons rfl (stoLe_cons rfl (stoLe_cons rfl (stoLe_cons rfl (stoLe_cons rfl (stoLe_cons rfl (stoLe_cons rfl (stoLe_cons rfl (stoLe_cons rfl (stoLe_cons rfl (stoLe_cons rfl (stoLe_cons rfl (stoLe_cons rfl (stoLe_cons rfl (stoLe_cons rfl stoLe_nil)))))))))))))))))))))))))))))))))))) .nil))) (.cons (.step [0, 1] (by kernel_rfl) rfl (.cons (.yes 9 rfl (wanted_plain rfl) (opTo_q (d := 31) rfl rfl (ev_load rfl rfl ty_s_uint8 rfl rfl)) rfl (frLe_cons rfl (frLe_cons rfl (frLe_cons rfl (frLe_cons rfl (frLe_cons rfl frLe_nil))))) (stoLe_cons rfl (stoLe_cons rfl (stoLe_cons rfl (stoLe_cons rfl (stoLe_cons rfl (stoLe_cons rfl (stoLe_cons rfl (stoLe_cons rfl (stoLe_cons rfl (stoLe_cons rfl (stoLe_cons rfl (stoLe_cons rfl (stoLe_cons rfl (stoLe_cons rfl (stoLe_cons rfl (stoLe_cons rfl (stoLe_cons rfl (stoLe_cons rfl (stoLe_cons rfl (stoLe_cons rfl (stoLe_cons rfl (stoLe_cons rfl (stoLe_cons rfl (stoLe_cons rfl (stoLe_cons rfl (stoLe_cons rfl (stoLe_cons rfl (stoLe_cons rfl (stoLe_cons rfl (stoLe_cons rfl (stoLe_cons rfl (stoLe_cons rfl (stoLe_cons rfl (stoLe_cons rfl (stoLe_cons rfl stoLe_nil)))))))))))))))))))))))))))))))))))) (.cons (.yes 10 rfl (wanted_plain rfl) (opTo_q (d := 32) rfl rfl ev_move) rfl (frLe_cons rfl (frLe_cons rfl (frLe_cons rfl (frLe_cons rfl (frLe_cons rfl frLe_nil))))) (stoLe_cons rfl (stoLe_cons rfl (stoLe_cons rfl (stoLe_cons rfl (stoLe_cons rfl (stoLe_cons rfl (stoLe_cons rfl (stoLe_cons rfl (stoLe_cons rfl (stoLe_cons rfl (stoLe_cons rfl (stoLe_cons rfl (stoLe_cons rfl (stoLe_cons rfl (stoLe_cons rfl (stoLe_cons rfl (stoLe_cons rfl (stoLe_cons rfl (stoLe_cons rfl (stoLe_cons rfl (stoLe_cons rfl (stoLe_cons rfl (stoLe_cons rfl (stoLe_cons rfl (stoLe_cons rfl (stoLe_cons rfl (stoLe_cons rfl (stoLe_cons rfl (stoLe_cons rfl (stoLe_cons rfl (stoLe_cons rfl (stoLe_cons rfl (stoLe_cons rfl (stoLe_cons rfl (stoLe_cons rfl stoLe_nil)))))))))))))))))))))))))))))))))))) .nil))) (.cons (.step [3] (by kernel_rfl) rfl (.cons (.yes 11 rfl (wanted_plain rfl) (opTo_convrow (l := ([(46 : UInt8)] : List UInt8)) rfl rfl rfl ty_s_uint8 ty_uint8 rfl) rfl (frLe_cons rfl (frLe_cons rfl (frLe_cons rfl (frLe_cons rfl (frLe_cons rfl (frLe_cons rfl frLe_nil)))))) (stoLe_cons rfl (stoLe_cons rfl (stoLe_cons rfl (stoLe_cons rfl (stoLe_cons rfl (stoLe_cons rfl (stoLe_cons rfl (stoLe_cons rfl (stoLe_cons rfl (stoLe_cons rfl (stoLe_cons rfl (stoLe_cons rfl (stoLe_cons rfl (stoLe_cons rfl (stoLe_cons rfl (stoLe_cons rfl (stoLe_cons rfl (stoLe_cons rfl (stoLe_cons rfl (stoLe_cons rfl (stoLe_cons rfl (stoLe_cons rfl (stoLe_cons rfl (stoLe_cons rfl (stoLe_cons rfl (stoLe_cons rfl (stoLe_cons rfl (stoLe_cons rfl (stoLe_cons rfl (stoLe_cons rfl (stoLe_cons rfl (stoLe_cons rfl (stoLe_cons rfl (stoLe_cons rfl (stoLe_cons rfl stoLe_nil)))))))))))))))))))))))))))))))))))) .nil)) (.cons (.step [1] (by kernel_rfl) rfl (.cons (.yes 11 rfl (wanted_plain rfl) (opTo_q (d := 32) rfl rfl ev_move) rfl (frLe_cons rfl (frLe_cons rfl (frLe_cons rfl (frLe_cons rfl (frLe_cons rfl (frLe_cons rfl frLe_nil)))))) (stoLe_cons rfl (stoLe_cons rfl (stoLe_cons rfl (stoLe_cons rfl (stoLe_cons rfl (stoLe_cons rfl (stoLe_cons rfl (stoLe_cons rfl (stoLe_cons rfl (stoLe_cons rfl (stoLe_cons rfl (stoLe_cons rfl (stoLe_cons rfl (stoLe_cons rfl (stoLe_cons rfl (stoLe_cons rfl (stoLe_cons rfl (stoLe_cons rfl (stoLe_cons rfl (stoLe_cons rfl (stoLe_cons rfl (stoLe_cons rfl (stoLe_cons rfl (stoLe_cons rfl (stoLe_cons rfl (stoLe_cons rfl (stoLe_cons rfl (stoLe_cons rfl (stoLe_cons rfl (stoLe_cons rfl (stoLe_cons rfl (stoLe_cons rfl (stoLe_cons rfl (stoLe_cons rfl (stoLe_cons rfl stoLe_nil)))))))))))))))))))))))))))))))))))) .nil)) (.cons (.step [0, 4] (by kernel_rfl) rfl (.cons (.yes 11 rfl (wanted_plain rfl) (opTo_q (d := 31) rfl rfl (ev_load rfl rfl ty_s_uint8 rfl rfl)) rfl (frLe_cons rfl (frLe_cons rfl (frLe_cons rfl (frLe_cons rfl (frLe_cons rfl (frLe_cons rfl frLe_nil)))))) (stoLe_cons rfl (stoLe_cons rfl (stoLe_cons rfl (stoLe_cons rfl (stoLe_cons rfl (stoLe_cons rfl (stoLe_cons rfl (stoLe_cons rfl (stoLe_cons rfl (stoLe_cons rfl (stoLe_cons rfl (stoLe_cons rfl (stoLe_cons rfl (stoLe_cons rfl (stoLe_cons rfl (stoLe_cons rfl (stoLe_cons rfl (stoLe_cons rfl (stoLe_cons rfl (stoLe_cons rfl (stoLe_cons rfl (stoLe_cons rfl (stoLe_cons rfl (stoLe_cons rfl (stoLe_cons rfl (stoLe_cons rfl (stoLe_cons rfl (stoLe_cons rfl (stoLe_cons rfl (stoLe_cons rfl (stoLe_cons rfl (stoLe_cons rfl (stoLe_cons rfl (stoLe_cons rfl (stoLe_cons rfl stoLe_nil)))))))))))))))))))))))))))))))))))) (.cons (.yes 12 rfl (wanted_plain rfl) (opTo_call (k := 35) (bytes_TrimPrefix_run v14 (([(46 : UInt8)] : List UInt8)) v22 h23) rfl rfl) rfl (frLe_cons rfl (frLe_cons rfl (frLe_cons rfl (frLe_cons rfl (frLe_cons rfl (frLe_cons rfl frLe_nil)))))) (stoLe_cons rfl (stoLe_cons rfl (stoLe_cons rfl (stoLe_cons rfl (stoLe_cons rfl (stoLe_cons rfl (stoLe_cons rfl (stoLe_cons rfl (stoLe_cons rfl (stoLe_cons rfl (stoLe_cons rfl (stoLe_cons rfl (stoLe_cons rfl (stoLe_cons rfl (stoLe_cons rfl (stoLe_cons rfl (stoLe_cons rfl (stoLe_cons rfl (stoLe_cons rfl (stoLe_cons rfl (stoLe_cons rfl (stoLe_cons rfl (stoLe_cons rfl (stoLe_cons rfl (stoLe_cons rfl (stoLe_cons rfl (stoLe_cons rfl (stoLe_cons rfl (stoLe_cons rfl (stoLe_cons rfl (stoLe_cons rfl (stoLe_cons rfl (stoLe_cons rfl (stoLe_cons rfl (stoLe_cons rfl stoLe_nil)))))))))))))))))))))))))))))))))))) .nil))) (.cons (.step [4] (by kernel_rfl) rfl (.cons (.yes 13 rfl (wanted_plain rfl) (opTo_call (k := 35) (bytes_TrimPrefix_run v14 (([(46 : UInt8)] : List UInt8)) v22 h23) rfl rfl) rfl (frLe_cons rfl (frLe_cons rfl (frLe_cons rfl (frLe_cons rfl (frLe_cons rfl (frLe_cons rfl (frLe_cons rfl frLe_nil))))))) (stoLe_cons rfl (stoLe_cons rfl (stoLe_cons rfl (stoLe_cons rfl (stoLe_cons rfl (stoLe_cons rfl (stoLe_cons rfl (stoLe_cons rfl (stoLe_cons rfl (stoLe_cons rfl (stoLe_cons rfl (stoLe_cons rfl (stoLe_cons rfl (stoLe_cons rfl (stoLe_cons rfl (stoLe_cons rfl (stoLe_cons rfl (stoLe_cons rfl (stoLe_cons rfl (stoLe_cons rfl (stoLe_cons rfl (stoLe_cons rfl (stoLe_cons rfl (stoLe_cons rfl (stoLe_cons rfl (stoLe_cons rfl (stoLe_cons rfl (stoLe_cons rfl (stoLe_cons rfl (stoLe_cons rfl (stoLe_cons rfl (stoLe_cons rfl (stoLe_cons rfl (stoLe_cons rfl (stoLe_cons rfl stoLe_nil)))))))))))))))))))))))))))))))))))) .nil)) (.cons (.step [0] (by kernel_rfl) rfl (.cons (.yes 13 rfl (wanted_plain rfl) (opTo_q (d := 31) rfl rfl (ev_load rfl rfl ty_s_uint8 rfl rfl)) rfl (frLe_cons rfl (frLe_cons rfl (frLe_cons rfl (frLe_cons rfl (frLe_cons rfl (frLe_cons rfl (frLe_cons rfl frLe_nil))))))) (stoLe_cons rfl (stoLe_cons rfl (stoLe_cons rfl (stoLe_cons rfl (stoLe_cons rfl (stoLe_cons rfl (stoLe_cons rfl (stoLe_cons rfl (stoLe_cons rfl (stoLe_cons rfl (stoLe_cons rfl (stoLe_cons rfl (stoLe_cons rfl (stoLe_cons rfl (stoLe_cons rfl (stoLe_cons rfl (stoLe_cons rfl (stoLe_cons rfl (stoLe_cons rfl (stoLe_cons rfl (stoLe_cons rfl (stoLe_cons rfl (stoLe_cons rfl (stoLe_cons rfl (stoLe_cons rfl (stoLe_cons rfl (stoLe_cons rfl (stoLe_cons rfl (stoLe_cons rfl (stoLe_cons rfl (stoLe_cons rfl (stoLe_cons rfl (stoLe_cons rfl (stoLe_cons rfl (stoLe_cons rfl stoLe_nil)))))))))))))))))))))))))))))))))))) .nil)) (.cons (.step [5] (by kernel_rfl) rfl (.cons (.yes 14 rfl (wanted_plain rfl) (opTo_append (k := 36) (F := cU) (l := s4.2.2) (xs := v22) (lim := 140737488355328) rfl rfl rfl rfl ty_s_uint8 ty_uint8 rfl rfl (fun _ => rfl) rfl h25) rfl (frLe_cons rfl (frLe_cons rfl (frLe_cons rfl (frLe_cons rfl (frLe_cons rfl (frLe_cons rfl (frLe_cons rfl frLe_nil))))))) (stoLe_cons rfl (stoLe_cons rfl (stoLe_cons rfl (stoLe_cons rfl (stoLe_cons rfl (stoLe_cons rfl (stoLe_cons rfl (stoLe_cons rfl (stoLe_cons rfl (stoLe_cons rfl (stoLe_cons rfl (stoLe_cons rfl (stoLe_cons rfl (stoLe_cons rfl (stoLe_cons rfl (stoLe_cons rfl (stoLe_cons rfl (stoLe_cons rfl (stoLe_cons rfl (stoLe_cons rfl (stoLe_cons rfl (stoLe_cons rfl (stoLe_cons rfl (stoLe_cons rfl (stoLe_cons rfl (stoLe_cons rfl (stoLe_cons rfl (stoLe_cons rfl (stoLe_cons rfl (stoLe_cons rfl (stoLe_cons rfl (stoLe_cons rfl (stoLe_cons rfl (stoLe_cons rfl (stoLe_cons rfl stoLe_nil)))))))))))))))))))))))))))))))))))) .nil)) (.cons (.step [6] (by kernel_rfl) rfl (.cons (.yes 15 rfl (wanted_plain rfl) (opTo_appends (k := 37) (l := v24) (s := (([13, 10] : Str))) (lim := 140737488355328) rfl rfl rfl rfl ty_s_uint8 ty_string.u ty_uint8 rfl h27) rfl (frLe_cons rfl (frLe_cons rfl (frLe_cons rfl (frLe_cons rfl (frLe_cons rfl (frLe_cons rfl (frLe_cons rfl frLe_nil))))))) (stoLe_cons rfl (stoLe_cons rfl (stoLe_cons rfl (stoLe_cons rfl (stoLe_cons rfl (stoLe_cons rfl (stoLe_cons rfl (stoLe_cons rfl (stoLe_cons rfl (stoLe_cons rfl (stoLe_cons rfl (stoLe_cons rfl (stoLe_cons rfl (stoLe_cons rfl (stoLe_cons rfl (stoLe_cons rfl (stoLe_cons rfl (stoLe_cons rfl (stoLe_cons rfl (stoLe_cons rfl (stoLe_cons rfl (stoLe_cons rfl (stoLe_cons rfl (stoLe_cons rfl (stoLe_cons rfl (stoLe_cons rfl (stoLe_cons rfl (stoLe_cons rfl (stoLe_cons rfl (stoLe_cons rfl (stoLe_cons rfl (stoLe_cons rfl (stoLe_cons rfl (stoLe_cons rfl (stoLe_cons rfl stoLe_nil)))))))))))))))))))))))))))))))))))) .nil)) (.cons (.step [7] (by kernel_rfl) rfl (.cons (.yes 16 rfl (wanted_plain rfl) (opTo_store rfl rfl rfl ty_s_uint8 rfl rfl) rfl (frLe_cons rfl (frLe_cons rfl (frLe_cons rfl (frLe_cons rfl (frLe_cons rfl (frLe_cons rfl (frLe_cons rfl frLe_nil))))))) (stoLe_cons rfl (stoLe_cons rfl (stoLe_cons rfl (stoLe_cons rfl (stoLe_cons rfl (stoLe_cons rfl (stoLe_cons rfl (stoLe_cons rfl (stoLe_cons rfl (stoLe_cons rfl (stoLe_cons rfl (stoLe_cons rfl (stoLe_cons rfl (stoLe_cons rfl (stoLe_cons rfl (stoLe_cons rfl (stoLe_cons rfl (stoLe_cons rfl (stoLe_cons rfl (stoLe_cons rfl (stoLe_cons rfl (stoLe_cons rfl (stoLe_cons rfl (stoLe_cons rfl (stoLe_cons rfl (stoLe_cons rfl (stoLe_cons rfl (stoLe_cons rfl (stoLe_cons rfl (stoLe_cons rfl (stoLe_cons rfl (stoLe_cons rfl (stoLe_cons rfl (stoLe_cons rfl (stoLe_cons rfl stoLe_nil)))))))))))))))))))))))))))))))))))) .nil)) (.cons (.full (by kernel_rfl) ?_) .nil)))))))))))))))))
          refine kblock_normal ?_
          refine rndK (fr'' := [(0, .fn (.yield b10) [] []), (1, .ptr 1 0), (3, .i s4.1), (4, .i v11), (13, .bo (decide (v11 < 0))), (14, .fn (.yield b10) [] []), (15, .l cU a0), (16, .i s4.1), (17, .i s4.1), (18, .i v11), (19, .i ((w64 (s4.1 + v11)))), (20, .l cU v14), (21, .i s4.1), (22, .i v11), (23, .i ((w64 (s4.1 + v11)))), (24, .i ((w64 ((w64 (s4.1 + v11)) + 2))))]) (σ'' := [(1099999, .sus g0.w.heap.size ds10), (1099998, .lp b10 L10), (1000000, .hold (.l cU a0) (T10.getD 0 undef)), (1000002, .hold (.ptr 2 0) (T10.getD 2 undef)), (1000003, .hold (.ptr 3 0) (T10.getD 3 undef)), (1000004, .hold (.ptr 4 0) (T10.getD 4 undef)), (1000005, .hold (.ptr 5 0) (T10.getD 5 undef)), (1000006, .hold (.ptr 6 0) (T10.getD 6 undef)), (1000007, .hold (.ptr 7 0) (T10.getD 7 undef)), (1000017, .hold (.fn (.func 57) [] [.ptr 1 0]) (T10.getD 17 undef)), (1, .cells [.l cU a0]), (7, .cells [.i ((w64 ((w64 (s4.1 + v11)) + 2)))]), (1006, .row 5 false 1 (List.map cU v26)), (6, .cells [.hs 1006 0]), (5, .cells [.i 0, .i 0]), (4, .cells [.bo false]), (3, .cells [.i 0]), (2, .cells [.l cU ([])])]) .off stoLe_refl rfl (.cons rfl (.cons rfl (.cons rfl (.cons rfl (.cons rfl (.cons rfl (.cons rfl (.cons rfl (.cons rfl (.cons rfl (.cons rfl (.cons rfl (.cons rfl (.cons rfl (.cons rfl (.cons rfl .nil)))))))))))))))) rfl (stoLe_cons rfl (stoLe_cons rfl (stoLe_cons rfl (stoLe_cons rfl (stoLe_cons rfl (stoLe_cons rfl (stoLe_cons rfl (stoLe_cons rfl (stoLe_cons rfl (stoLe_cons rfl (stoLe_cons rfl (stoLe_cons rfl (stoLe_cons rfl (stoLe_cons rfl (stoLe_cons rfl (stoLe_cons rfl (stoLe_cons rfl (stoLe_cons rfl stoLe_nil)))))))))))))))))) ?_
          refine awpl_yes (d := 13) rfl rfl rfl c13 (opTo_q (d := 26) rfl rfl (ev_not rfl)) ?_
          refine awpl_op rfl (opTo_q (d := 27) rfl rfl (ev_pick_f rfl c13)) ?_
          refine awpl_nil ?_
          refine kthen_normal ?_
          refine awp_cond (t := false) rfl (fun h => nomatch h) (fun _ => ?_)
          refine awp_skip ?_
          refine kthen_normal ?_
          refine awp_region ?_
          refine awpl_op rfl (opTo_q (d := 28) rfl rfl ev_move) ?_
          refine awpl_op rfl (opTo_q (d := 29) rfl rfl ev_move) ?_
          refine awpl_op rfl (opTo_q (d := 30) rfl rfl (ev_add rfl rfl)) ?_
          refine awpl_op rfl (opTo_q (d := 31) rfl rfl (ev_add rfl rfl)) ?_
          refine awpl_op rfl (opTo_q (d := 3) rfl rfl ev_assign) ?_
          refine awpl_nil ?_
          refine kblock_normal ?_
          cases hr
          exact ⟨rfl, (frLe_cons rfl (frLe_cons rfl (frLe_cons rfl frLe_nil))), (stoLe_cons rfl (stoLe_cons rfl (stoLe_cons rfl (stoLe_cons rfl (stoLe_cons rfl (stoLe_cons rfl (stoLe_cons rfl (stoLe_cons rfl (stoLe_cons rfl (stoLe_cons rfl (stoLe_cons rfl (stoLe_cons rfl (stoLe_cons rfl (stoLe_cons rfl (stoLe_cons rfl (stoLe_cons rfl (stoLe_cons rfl (stoLe_cons rfl stoLe_nil))))))))))))))))))⟩
    · intro e fr2 st2 hq
      rcases o7 with b5 | b6
      · obtain ⟨rfl, hf, hs⟩ := hq
        refine kblock_ret ?_
        refine itrK (L' := L10) (fr'' := [(0, .l cU a0), (2, .ptr 2 0), (3, .ptr 3 0), (4, .ptr 4 0), (5, .ptr 5 0), (6, .ptr 6 0), (7, .ptr 7 0), (17, .fn (.func 57) [] [.ptr 1 0])]) (σ'' := [(1, .cells [.l cU a0]), (7, .cells [.i b5.1]), (1006, .row 5 false 1 (List.map cU b5.2)), (6, .cells [.hs 1006 0]), (5, .cells [.i 0, .i 0]), (4, .cells [.bo false]), (3, .cells [.i 0]), (2, .cells [.l cU ([])])]) (.inl rfl) hs rfl (.cons rfl (.cons rfl (.cons rfl (.cons rfl (.cons rfl (.cons rfl (.cons rfl (.cons rfl .nil)))))))) rfl (stoLe_cons rfl (stoLe_cons rfl (stoLe_cons rfl (stoLe_cons rfl (stoLe_cons rfl (stoLe_cons rfl (stoLe_cons rfl (stoLe_cons rfl stoLe_nil)))))))) rfl ?_
        refine .off ?_
        refine kblock_normal ?_
        refine kthen_normal ?_
        refine awp_seq ?_
        refine awp_region ?_
        refine awpl_op rfl (opTo_q (d := 38) rfl rfl (ev_load rfl rfl ty_s_uint8 rfl rfl)) ?_
        refine awpl_op rfl (opTo_q (d := 39) rfl rfl (ev_hlen (F := cU) rfl rfl ty_s_uint8.u)) ?_
        refine awpl_op rfl (opTo_q (d := 10) rfl rfl ev_assign) ?_
        refine awpl_nil ?_
        refine kthen_normal ?_
        obtain ⟨j28, hx, hy⟩ := bind_some hr
        refine awp_join (fun j28 => [(2, .ptr 2 0), (3, .ptr 3 0), (4, .ptr 4 0), (5, .ptr 5 0), (10, .i j28)]) (fun j28 => [(5, .cells [.i 0, .i 0]), (4, .cells [.bo false]), (3, .cells [.i 0]), (2, .cells [.l cU ([])])]) (fun z => j28 = z) ?_ ?_
        · have hr := hx
          clear hx hy
          refine awp_seq ?_
          refine awp_region ?_
          refine awpl_op rfl (opTo_q (d := 40) rfl rfl ev_move) ?_
          refine awpl_op rfl (opTo_q (d := 41) rfl rfl (ev_load rfl rfl ty_int rfl rfl)) ?_
          obtain ⟨v29, h30, hr⟩ := bind_some hr
          refine awpl_op rfl (opTo_q (d := 42) rfl rfl (ev_cutL (F := cU) rfl rfl ty_s_uint8 ty_uint8 (fun _ => rfl) h30)) ?_
          refine awpl_op rfl (opTo_q (d := 43) rfl rfl (ev_bytes2s rfl ty_s_uint8 ty_uint8 ty_string)) ?_
          refine awpl_op rfl (opTo_q (d := 11) rfl rfl ev_assign) ?_
          refine awpl_nil ?_
          refine kthen_normal ?_
          obtain ⟨j31, hx, hy⟩ := bind_some hr
          refine awp_join (fun j31 => [(0, .l cU a0), (2, .ptr 2 0), (3, .ptr 3 0), (4, .ptr 4 0), (5, .ptr 5 0), (7, .ptr 7 0), (10, .i ((b5.2.length : Int))), (49, .bo j31)]) (fun j31 => [(7, .cells [.i b5.1]), (5, .cells [.i 0, .i 0]), (4, .cells [.bo false]), (3, .cells [.i 0]), (2, .cells [.l cU ([])])]) (fun z => j31 = z) ?_ ?_
          · have hr := hx
            clear hx hy
            refine awp_region ?_
            refine awpl_op rfl (opTo_q (d := 44) rfl rfl ev_move) ?_
            refine awpl_op rfl (opTo_q (d := 45) rfl rfl (ev_sneq (a := v29) (b := ([46] : Str)) rfl rfl)) ?_
            refine awpl_op rfl (opTo_q (d := 46) rfl rfl ev_move) ?_
            refine bool_split ((v29 != ([46] : Str))) (fun c32 => ?_) (fun c32 => ?_)
            · replace hr := cond_t c32 hr
              refine awpl_yes (d := 46) rfl rfl rfl c32 (opTo_q (d := 47) rfl rfl ev_move) ?_
              refine awpl_yes (d := 46) rfl rfl rfl c32 (opTo_q (d := 48) rfl rfl (ev_sneq (a := v29) (b := ([46, 13] : Str)) rfl rfl)) ?_
              refine awpl_op rfl (opTo_q (d := 49) rfl rfl (ev_pick_t rfl c32)) ?_
              refine awpl_nil ?_
              cases hr
              exact joinK_normal _ rfl (frLe_cons rfl (frLe_cons rfl (frLe_cons rfl (frLe_cons rfl (frLe_cons rfl (frLe_cons rfl (frLe_cons rfl (frLe_cons rfl frLe_nil)))))))) (stoLe_cons rfl (stoLe_cons rfl (stoLe_cons rfl (stoLe_cons rfl (stoLe_cons rfl stoLe_nil)))))
            · replace hr := cond_f c32 hr
              refine awpl_no (d := 46) rfl rfl rfl c32 ?_
              refine awpl_no (d := 46) rfl rfl rfl c32 ?_
              refine awpl_op rfl (opTo_q (d := 49) rfl rfl (ev_pick_f rfl c32)) ?_
              refine awpl_nil ?_
              cases hr
              exact joinK_normal _ rfl (frLe_cons rfl (frLe_cons rfl (frLe_cons rfl (frLe_cons rfl (frLe_cons rfl (frLe_cons rfl (frLe_cons rfl (frLe_cons rfl frLe_nil)))))))) (stoLe_cons rfl (stoLe_cons rfl (stoLe_cons rfl (stoLe_cons rfl (stoLe_cons rfl stoLe_nil)))))
          · rintro _ rfl
            have hr := hy
            clear hx hy
            refine awp_cond rfl (fun c33 => ?_) (fun c33 => ?_)
            · replace hr := cond_t c33 hr
              refine awp_region ?_
              refine awpl_op rfl (opTo_q (d := 50) rfl rfl ev_move) ?_
              refine awpl_op rfl (opTo_q (d := 51) rfl rfl ev_move) ?_
              refine awpl_op rfl (opTo_q (d := 52) rfl rfl (ev_load rfl rfl ty_int rfl rfl)) ?_
              obtain ⟨v34, h35, hr⟩ := bind_some hr
              refine awpl_op rfl (opTo_q (d := 53) rfl rfl (ev_cutL (F := cU) rfl rfl ty_s_uint8 ty_uint8 (fun _ => rfl) h35)) ?_
              refine awpl_litconv rfl (opGN_lit (F := cU) (l := ([(46 : UInt8)] : List UInt8)) ty_s_uint8 ty_uint8 rfl (fun _ => rfl) rfl rfl) ty_s_uint8 ty_uint8 (wanted_plain rfl) (wanted_plain rfl) rfl ?_
              obtain ⟨v36, h37, hr⟩ := bind_some hr
              refine awpl_op rfl (opTo_call (k := 56) (bytes_TrimPrefix_run v34 (([(46 : UInt8)] : List UInt8)) v36 h37) rfl rfl) ?_
              refine awpl_op rfl (opTo_q (d := 57) rfl rfl (ev_llen (f := cU) rfl ty_s_uint8.u)) ?_
              refine awpl_op rfl (opTo_q (d := 58) rfl rfl (ev_add rfl rfl)) ?_
              refine awpl_op rfl (opTo_q (d := 10) rfl rfl ev_assign) ?_
              refine awpl_nil ?_
              cases hr
              exact joinK_normal _ rfl (frLe_cons rfl (frLe_cons rfl (frLe_cons rfl (frLe_cons rfl (frLe_cons rfl frLe_nil))))) (stoLe_cons rfl (stoLe_cons rfl (stoLe_cons rfl (stoLe_cons rfl stoLe_nil))))
            · replace hr := cond_f c33 hr
              refine awp_skip ?_
              cases hr
              exact joinK_normal _ rfl (frLe_cons rfl (frLe_cons rfl (frLe_cons rfl (frLe_cons rfl (frLe_cons rfl frLe_nil))))) (stoLe_cons rfl (stoLe_cons rfl (stoLe_cons rfl (stoLe_cons rfl stoLe_nil))))
        · rintro _ rfl
          have hr := hy
          clear hx hy
          refine awp_seq ?_
          refine awp_seq ?_
          refine awp_region ?_
          refine awpl_op rfl (opTo_q (d := 59) rfl rfl ev_move) ?_
          refine awpl_op rfl (opTo_q (d := 60) rfl rfl (ev_gtr rfl rfl)) ?_
          refine awpl_nil ?_
          refine kthen_normal ?_
          refine awp_cond rfl (fun c38 => ?_) (fun c38 => ?_)
          · replace hr := cond_t c38 hr
            refine awp_seq ?_
            refine awp_region ?_
            obtain ⟨v39, h40, hr⟩ := bind_some hr
            refine awpl_op rfl (opTo_call (k := 61) (basic_Fault_run 1 ((-2)) v39 h40) rfl rfl) ?_
            refine awpl_op rfl (opTo_store rfl rfl rfl ty_s_uint8 rfl rfl) ?_
            refine awpl_op rfl (opTo_store rfl rfl rfl ty_int rfl rfl) ?_
            refine awpl_op rfl (opTo_store rfl rfl rfl ty_bool rfl rfl) ?_
            refine awpl_op rfl (opTo_store rfl rfl rfl ty_api_Fault rfl rfl) ?_
            refine awpl_nil ?_
            refine kthen_normal ?_
            refine awp_ret ?_
            refine kthen_ret ?_
            cases hr
            exact kret' rfl (.cons (res_cell rfl rfl ty_s_uint8 rfl rfl) (.cons (res_cell rfl rfl ty_int rfl rfl) (.cons (res_cell rfl rfl ty_bool rfl rfl) (.cons (res_cellN rfl rfl ty_api_Fault rfl rfl) .nil)))) rfl
          · replace hr := cond_f c38 hr
            refine awp_skip ?_
            refine kthen_normal ?_
            refine awp_seq ?_
            refine awp_region ?_
            obtain ⟨v41, h42, hr⟩ := bind_some hr
            refine awpl_op rfl (opTo_call (k := 62) (basic_None_run  v41 h42) rfl rfl) ?_
            refine awpl_op rfl (opTo_store rfl rfl rfl ty_s_uint8 rfl rfl) ?_
            refine awpl_op rfl (opTo_store rfl rfl rfl ty_int rfl rfl) ?_
            refine awpl_op rfl (opTo_store rfl rfl rfl ty_bool rfl rfl) ?_
            refine awpl_op rfl (opTo_store rfl rfl rfl ty_api_Fault rfl rfl) ?_
            refine awpl_nil ?_
            refine kthen_normal ?_
            refine awp_ret ?_
            cases hr
            exact kret' rfl (.cons (res_cell rfl rfl ty_s_uint8 rfl rfl) (.cons (res_cell rfl rfl ty_int rfl rfl) (.cons (res_cell rfl rfl ty_bool rfl rfl) (.cons (res_cellN rfl rfl ty_api_Fault rfl rfl) .nil)))) rfl
      · obtain ⟨rfl, hf, hs⟩ := hq
        refine kblock_ret ?_
        refine itrK (L' := (stop L10 .ret)) (fr'' := [(0, .l cU a0), (2, .ptr 2 0), (3, .ptr 3 0), (4, .ptr 4 0), (5, .ptr 5 0), (6, .ptr 6 0), (7, .ptr 7 0), (17, .fn (.func 57) [] [.ptr 1 0])]) (σ'' := [(1, .cells [.l cU a0]), (7, .cells [.i b6.1]), (1006, .row 5 false 1 (List.map cU b6.2.1)), (6, .cells [.hs 1006 0]), (5, .cells [.i b6.2.2.1, .i b6.2.2.2.1]), (4, .cells [.bo b6.2.2.2.2.1]), (3, .cells [.i b6.2.2.2.2.2.1]), (2, .cells [.l cU b6.2.2.2.2.2.2])]) (.inl rfl) hs rfl (.cons rfl (.cons rfl (.cons rfl (.cons rfl (.cons rfl (.cons rfl (.cons rfl (.cons rfl .nil)))))))) rfl (stoLe_cons rfl (stoLe_cons rfl (stoLe_cons rfl (stoLe_cons rfl (stoLe_cons rfl (stoLe_cons rfl (stoLe_cons rfl (stoLe_cons rfl stoLe_nil)))))))) rfl ?_
        refine .jump ?_
        refine awp_ret ?_
        refine kblock_ret ?_
        refine kthen_ret ?_
        cases hr
        exact kret' rfl (.cons (res_cell rfl rfl ty_s_uint8 rfl rfl) (.cons (res_cell rfl rfl ty_int rfl rfl) (.cons (res_cell rfl rfl ty_bool rfl rfl) (.cons (res_cellN rfl rfl ty_api_Fault rfl rfl) .nil)))) rfl
end Go.Proofs.Ytlpmbmilnoncdaa

/- A function of the program computes what its Lean function does. Written by program. -/
namespace Go.Proofs.Ytlpmbmilnoncdaa
open Go.RowKit
set_option maxRecDepth 100000
set_option maxHeartbeats 40000000
set_option linter.unusedVariables false
theorem L_splits_run  (r : Bool) (hr : L_splits = some r) : Run Try.prog 21 [] (.bo r) := by
  unfold L_splits at hr
  refine run_of_awp (fn := Try.f21) ⟨Try.func21, rfl, by kernel_rfl⟩ rfl (fun _ => rfl) fun g0 hg => ?_
  refine awp_seq ?_
  refine awp_region ?_
  refine awpl_op rfl (opTo_q (d := 0) rfl rfl ev_assign) ?_
  refine awpl_nil ?_
  refine kthen_normal ?_
  refine awp_seq ?_
  refine awp_region ?_
  refine awpl_litconv rfl (opGN_lit (F := cU) (l := ([(97 : UInt8), (13 : UInt8), (10 : UInt8), (98 : UInt8)] : List UInt8)) ty_s_uint8 ty_uint8 rfl (fun _ => rfl) rfl rfl) ty_s_uint8 ty_uint8 (wanted_plain rfl) (wanted_plain rfl) rfl ?_
  obtain ⟨v1, h2, hr⟩ := bind_some hr
  refine awpl_op rfl (opTo_call (k := 15) (lines_Split_run (([(97 : UInt8), (13 : UInt8), (10 : UInt8), (98 : UInt8)] : List UInt8)) v1 h2) rfl rfl) ?_
  refine awpl_op rfl (opTo_q (d := 12) rfl rfl ev_move) ?_
  refine awpl_op rfl (opTo_q (d := 16) rfl rfl (ev_extract rfl rfl)) ?_
  refine awpl_op rfl (opTo_q (d := 17) rfl rfl (ev_extract rfl rfl)) ?_
  refine awpl_op rfl (opTo_q (d := 18) rfl rfl (ev_extract rfl rfl)) ?_
  refine awpl_op rfl (opTo_alloc (k := 3) 3 rfl ty_api_Fault (.inr ⟨rfl, rfl⟩) rfl rfl rfl) ?_
  refine awpl_op rfl (opTo_q (d := 1) rfl rfl ev_assign) ?_
  refine awpl_op rfl (opTo_q (d := 2) rfl rfl ev_assign) ?_
  refine awpl_op rfl (opTo_store rfl rfl rfl ty_api_Fault rfl rfl) ?_
  refine awpl_nil ?_
  refine kthen_normal ?_
  refine awp_seq ?_
  refine awp_region ?_
  obtain ⟨v3, h4, hr⟩ := bind_some hr
  refine awpl_op rfl (opTo_call (k := 20) (lines_Stuff_run ([]) v3 h4) rfl rfl) ?_
  refine awpl_op rfl (opTo_q (d := 19) rfl rfl ev_move) ?_
  refine awpl_op rfl (opTo_q (d := 21) rfl rfl (ev_extract rfl rfl)) ?_
  refine awpl_op rfl (opTo_q (d := 22) rfl rfl (ev_extract rfl rfl)) ?_
  refine awpl_op rfl (opTo_alloc (k := 5) 5 rfl ty_api_Fault (.inr ⟨rfl, rfl⟩) rfl rfl rfl) ?_
  refine awpl_op rfl (opTo_q (d := 4) rfl rfl ev_assign) ?_
  refine awpl_op rfl (opTo_store rfl rfl rfl ty_api_Fault rfl rfl) ?_
  refine awpl_nil ?_
  refine kthen_normal ?_
  refine awp_seq ?_
  refine awp_region ?_
  refine awpl_litconv rfl (opGN_lit (F := cU) (l := ([(46 : UInt8), (46 : UInt8), (13 : UInt8), (10 : UInt8), (46 : UInt8), (13 : UInt8), (10 : UInt8), (120 : UInt8)] : List UInt8)) ty_s_uint8 ty_uint8 rfl (fun _ => rfl) rfl rfl) ty_s_uint8 ty_uint8 (wanted_plain rfl) (wanted_plain rfl) rfl ?_
  obtain ⟨v5, h6, hr⟩ := bind_some hr
  refine awpl_op rfl (opTo_call (k := 26) (lines_Unstuff_run (([(46 : UInt8), (46 : UInt8), (13 : UInt8), (10 : UInt8), (46 : UInt8), (13 : UInt8), (10 : UInt8), (120 : UInt8)] : List UInt8)) v5 h6) rfl rfl) ?_
  refine awpl_op rfl (opTo_q (d := 23) rfl rfl ev_move) ?_
  refine awpl_op rfl (opTo_q (d := 27) rfl rfl (ev_extract rfl rfl)) ?_
  refine awpl_op rfl (opTo_q (d := 28) rfl rfl (ev_extract rfl rfl)) ?_
  refine awpl_op rfl (opTo_q (d := 29) rfl rfl (ev_extract rfl rfl)) ?_
  refine awpl_op rfl (opTo_q (d := 30) rfl rfl (ev_extract rfl rfl)) ?_
  refine awpl_op rfl (opTo_alloc (k := 9) 9 rfl ty_api_Fault (.inr ⟨rfl, rfl⟩) rfl rfl rfl) ?_
  refine awpl_op rfl (opTo_q (d := 6) rfl rfl ev_assign) ?_
  refine awpl_op rfl (opTo_q (d := 7) rfl rfl ev_assign) ?_
  refine awpl_op rfl (opTo_q (d := 8) rfl rfl ev_assign) ?_
  refine awpl_op rfl (opTo_store rfl rfl rfl ty_api_Fault rfl rfl) ?_
  refine awpl_nil ?_
  refine kthen_normal ?_
  refine awp_seq ?_
  refine awp_region ?_
  refine awpl_litconv rfl (opGN_lit (F := cU) (l := ([(97 : UInt8)] : List UInt8)) ty_s_uint8 ty_uint8 rfl (fun _ => rfl) rfl rfl) ty_s_uint8 ty_uint8 (wanted_plain rfl) (wanted_plain rfl) rfl ?_
  obtain ⟨v7, h8, hr⟩ := bind_some hr
  refine awpl_op rfl (opTo_call (k := 34) (lines_Stuff_run (([(97 : UInt8)] : List UInt8)) v7 h8) rfl rfl) ?_
  refine awpl_op rfl (opTo_q (d := 31) rfl rfl ev_move) ?_
  refine awpl_op rfl (opTo_q (d := 35) rfl rfl (ev_extract rfl rfl)) ?_
  refine awpl_op rfl (opTo_q (d := 36) rfl rfl (ev_extract rfl rfl)) ?_
  refine awpl_op rfl (opTo_alloc (k := 11) 11 rfl ty_api_Fault (.inr ⟨rfl, rfl⟩) rfl rfl rfl) ?_
  refine awpl_op rfl (opTo_q (d := 10) rfl rfl ev_assign) ?_
  refine awpl_op rfl (opTo_store rfl rfl rfl ty_api_Fault rfl rfl) ?_
  refine awpl_nil ?_
  refine kthen_normal ?_
  obtain ⟨j9, hx, hy⟩ := bind_some hr
  refine awp_join (fun j9 => [(0, .bo j9)]) (fun j9 => []) (fun z => j9 = z) ?_ ?_
  · have hr := hx
    clear hx hy
    refine bool_split ((v1.2.2.Code == 0)) (fun c10 => ?_) (fun c10 => ?_)
    · replace hr := cond_t c10 hr
      refine bool_split ((v3.2.Code == 0)) (fun c11 => ?_) (fun c11 => ?_)
      · replace hr := cond_t c11 hr
        refine bool_split ((v5.2.2.2.Code == 0)) (fun c12 => ?_) (fun c12 => ?_)
        · replace hr := cond_t c12 hr
          obtain ⟨v13, h14, hr⟩ := bind_some hr
          refine bool_split ((allEq [(v7.2.Code == v13.Code), (v7.2.Index == v13.Index)])) (fun c15 => ?_) (fun c15 => ?_)
          · replace hr := cond_t c15 hr
            refine awp_drawn 21 [(57, .l cS (([([97] : Str)] : List Str))), (56, .l cS v1.1), (55, .bo ((allEq [(v7.2.Code == v13.Code), (v7.2.Index == v13.Index)]))), (54, .bo ((allEq [(v7.2.Code == v13.Code), (v7.2.Index == v13.Index)]))), (53, .bo ((allEq [(v7.2.Code == v13.Code), (v7.2.Index == v13.Index)]))), (52, .agg [.i v13.Code, .i v13.Index]), (51, .agg [.i v7.2.Code, .i v7.2.Index]), (50, .bo ((v5.2.2.2.Code == 0))), (49, .bo ((v5.2.2.2.Code == 0))), (48, .bo ((v5.2.2.2.Code == 0))), (47, .i v5.2.2.2.Code), (46, .ptr 9 0), (45, .bo ((v3.2.Code == 0))), (44, .bo ((v3.2.Code == 0))), (43, .bo ((v3.2.Code == 0))), (42, .i v3.2.Code), (41, .ptr 5 0), (40, .bo ((v1.2.2.Code == 0))), (39, .bo ((v1.2.2.Code == 0))), (38, .i v1.2.2.Code), (37, .ptr 3 0)] mixed (by kernel_rfl) rfl rfl (.run (.plain rfl) (opG_q (ev_fieldAddr rfl ty_api_Fault.u rfl ty_int rfl)) (.run (.plain rfl) (opG_q (ev_load rfl rfl ty_int rfl rfl)) (.run (.plain rfl) (opG_q (ev_eql rfl rfl)) (.run (.plain rfl) (opG_q ev_move) (.run (.yes (d := 40) rfl rfl rfl c10) (opG_q (ev_fieldAddr rfl ty_api_Fault.u rfl ty_int rfl)) (.run (.yes (d := 40) rfl rfl rfl c10) (opG_q (ev_load rfl rfl ty_int rfl rfl)) (.run (.yes (d := 40) rfl rfl rfl c10) (opG_q (ev_eql rfl rfl)) (.run (.plain rfl) (opG_q (ev_pick_t rfl c10)) (.run (.plain rfl) (opG_q ev_move) (.run (.yes (d := 45) rfl rfl rfl c11) (opG_q (ev_fieldAddr rfl ty_api_Fault.u rfl ty_int rfl)) (.run (.yes (d := 45) rfl rfl rfl c11) (opG_q (ev_load rfl rfl ty_int rfl rfl)) (.run (.yes (d := 45) rfl rfl rfl c11) (opG_q (ev_eql rfl rfl)) (.run (.plain rfl) (opG_q (ev_pick_t rfl c11)) (.run (.plain rfl) (opG_q ev_move) (.run (.yes (d := 50) rfl rfl rfl c12) (opG_q (ev_loadN rfl rfl ty_api_Fault rfl rfl)) (.run (.yes (d := 50) rfl rfl rfl c12) (opG_call (R_At_run 5 ((-2)) v13 h14) rfl) (.run (.yes (d := 50) rfl rfl rfl c12) (opG_q (ev_structeq rfl rfl ty_api_Fault cmp_api_Fault (.int rfl (by decide) ty_int (.int rfl (by decide) ty_int .nil)))) (.run (.plain rfl) (opG_q (ev_pick_t rfl c12)) (.run (.plain rfl) (opG_q ev_move) (.run (.yes (d := 55) rfl rfl rfl c15) (opG_q ev_move) (.run (.yes (d := 55) rfl rfl rfl c15) (opG_lit (F := cS) (l := ([([97] : Str)] : List Str)) ty_s_string ty_string rfl (fun _ => rfl) rfl rfl) .nil))))))))))))))))))))) rfl ?_
            obtain ⟨v16, h17, hr⟩ := bind_some hr
            refine awpl_yes (d := 55) rfl rfl rfl c15 (opTo_call (k := 58) (R_Strings_run v1.1 (([([97] : Str)] : List Str)) v16 h17) rfl rfl) ?_
            refine awpl_op rfl (opTo_q (d := 59) rfl rfl (ev_pick_t rfl c15)) ?_
            refine awpl_op rfl (opTo_q (d := 60) rfl rfl ev_move) ?_
            refine bool_split v16 (fun c18 => ?_) (fun c18 => ?_)
            · replace hr := cond_t c18 hr
              refine awpl_yes (d := 60) rfl rfl rfl c18 (opTo_q (d := 61) rfl rfl ev_move) ?_
              refine awpl_yes (d := 60) rfl rfl rfl c18 (opTo_q (d := 62) rfl rfl (ev_bytes2s rfl ty_s_uint8 ty_uint8 ty_string)) ?_
              refine awpl_yes (d := 60) rfl rfl rfl c18 (opTo_q (d := 63) rfl rfl (ev_seql (a := v1.2.1) (b := ([98] : Str)) rfl rfl)) ?_
              refine awpl_op rfl (opTo_q (d := 64) rfl rfl (ev_pick_t rfl c18)) ?_
              refine awpl_op rfl (opTo_q (d := 65) rfl rfl ev_move) ?_
              refine bool_split ((v1.2.1 == ([98] : Str))) (fun c19 => ?_) (fun c19 => ?_)
              · replace hr := cond_t c19 hr
                refine awpl_yes (d := 65) rfl rfl rfl c19 (opTo_q (d := 66) rfl rfl ev_move) ?_
                refine awpl_yes (d := 65) rfl rfl rfl c19 (opTo_q (d := 67) rfl rfl (ev_bytes2s rfl ty_s_uint8 ty_uint8 ty_string)) ?_
                refine awpl_yes (d := 65) rfl rfl rfl c19 (opTo_q (d := 68) rfl rfl (ev_seql (a := v3.1) (b := ([46, 13, 10] : Str)) rfl rfl)) ?_
                refine awpl_op rfl (opTo_q (d := 69) rfl rfl (ev_pick_t rfl c19)) ?_
                refine awpl_op rfl (opTo_q (d := 70) rfl rfl ev_move) ?_
                refine bool_split ((v3.1 == ([46, 13, 10] : Str))) (fun c20 => ?_) (fun c20 => ?_)
                · replace hr := cond_t c20 hr
                  refine awpl_yes (d := 70) rfl rfl rfl c20 (opTo_q (d := 71) rfl rfl ev_move) ?_
                  refine awpl_yes (d := 70) rfl rfl rfl c20 (opTo_q (d := 72) rfl rfl (ev_bytes2s rfl ty_s_uint8 ty_uint8 ty_string)) ?_
                  refine awpl_yes (d := 70) rfl rfl rfl c20 (opTo_q (d := 73) rfl rfl (ev_seql (a := v5.1) (b := ([46, 13, 10] : Str)) rfl rfl)) ?_
                  refine awpl_op rfl (opTo_q (d := 74) rfl rfl (ev_pick_t rfl c20)) ?_
                  refine awpl_op rfl (opTo_q (d := 75) rfl rfl ev_move) ?_
                  refine bool_split ((v5.1 == ([46, 13, 10] : Str))) (fun c21 => ?_) (fun c21 => ?_)
                  · replace hr := cond_t c21 hr
                    refine awpl_yes (d := 75) rfl rfl rfl c21 (opTo_q (d := 76) rfl rfl ev_move) ?_
                    refine awpl_yes (d := 75) rfl rfl rfl c21 (opTo_q (d := 77) rfl rfl (ev_eql rfl rfl)) ?_
                    refine awpl_op rfl (opTo_q (d := 78) rfl rfl (ev_pick_t rfl c21)) ?_
                    refine awpl_op rfl (opTo_q (d := 79) rfl rfl ev_move) ?_
                    refine bool_split ((v5.2.1 == 7)) (fun c22 => ?_) (fun c22 => ?_)
                    · replace hr := cond_t c22 hr
                      refine awpl_yes (d := 79) rfl rfl rfl c22 (opTo_q (d := 80) rfl rfl ev_move) ?_
                      refine awpl_op rfl (opTo_q (d := 81) rfl rfl (ev_pick_t rfl c22)) ?_
                      refine awpl_op rfl (opTo_q (d := 0) rfl rfl ev_assign) ?_
                      refine awpl_nil ?_
                      cases hr
                      exact joinK_normal _ rfl (frLe_cons rfl frLe_nil) stoLe_nil
                    · replace hr := cond_f c22 hr
                      refine awpl_no (d := 79) rfl rfl rfl c22 ?_
                      refine awpl_op rfl (opTo_q (d := 81) rfl rfl (ev_pick_f rfl c22)) ?_
                      refine awpl_op rfl (opTo_q (d := 0) rfl rfl ev_assign) ?_
                      refine awpl_nil ?_
                      cases hr
                      exact joinK_normal _ rfl (frLe_cons rfl frLe_nil) stoLe_nil
                  · replace hr := cond_f c21 hr
                    refine awpl_no (d := 75) rfl rfl rfl c21 ?_
                    refine awpl_no (d := 75) rfl rfl rfl c21 ?_
                    refine awpl_op rfl (opTo_q (d := 78) rfl rfl (ev_pick_f rfl c21)) ?_
                    refine awpl_op rfl (opTo_q (d := 79) rfl rfl ev_move) ?_
                    refine awpl_no (d := 79) rfl rfl rfl rfl ?_
                    refine awpl_op rfl (opTo_q (d := 81) rfl rfl (ev_pick_f rfl rfl)) ?_
                    refine awpl_op rfl (opTo_q (d := 0) rfl rfl ev_assign) ?_
                    refine awpl_nil ?_
                    cases hr
                    exact joinK_normal _ rfl (frLe_cons rfl frLe_nil) stoLe_nil
                · replace hr := cond_f c20 hr
                  refine awpl_no (d := 70) rfl rfl rfl c20 ?_
                  refine awpl_no (d := 70) rfl rfl rfl c20 ?_
                  refine awpl_no (d := 70) rfl rfl rfl c20 ?_
                  refine awpl_op rfl (opTo_q (d := 74) rfl rfl (ev_pick_f rfl c20)) ?_
                  refine awpl_op rfl (opTo_q (d := 75) rfl rfl ev_move) ?_
                  refine awpl_no (d := 75) rfl rfl rfl rfl ?_
                  refine awpl_no (d := 75) rfl rfl rfl rfl ?_
                  refine awpl_op rfl (opTo_q (d := 78) rfl rfl (ev_pick_f rfl rfl)) ?_
                  refine awpl_op rfl (opTo_q (d := 79) rfl rfl ev_move) ?_
                  refine awpl_no (d := 79) rfl rfl rfl rfl ?_
                  refine awpl_op rfl (opTo_q (d := 81) rfl rfl (ev_pick_f rfl rfl)) ?_
                  refine awpl_op rfl (opTo_q (d := 0) rfl rfl ev_assign) ?_
                  refine awpl_nil ?_
                  cases hr
                  exact joinK_normal _ rfl (frLe_cons rfl frLe_nil) stoLe_nil
              · replace hr := cond_f c19 hr
                refine awpl_no (d := 65) rfl rfl rfl c19 ?_
                refine awpl_no (d := 65) rfl rfl rfl c19 ?_
                refine awpl_no (d := 65) rfl rfl rfl c19 ?_
                refine awpl_op rfl (opTo_q (d := 69) rfl rfl (ev_pick_f rfl c19)) ?_
                refine awpl_op rfl (opTo_q (d := 70) rfl rfl ev_move) ?_
                refine awpl_no (d := 70) rfl rfl rfl rfl ?_
                refine awpl_no (d := 70) rfl rfl rfl rfl ?_
                refine awpl_no (d := 70) rfl rfl rfl rfl ?_
                refine awpl_op rfl (opTo_q (d := 74) rfl rfl (ev_pick_f rfl rfl)) ?_
                refine awpl_op rfl (opTo_q (d := 75) rfl rfl ev_move) ?_
                refine awpl_no (d := 75) rfl rfl rfl rfl ?_
                refine awpl_no (d := 75) rfl rfl rfl rfl ?_
                refine awpl_op rfl (opTo_q (d := 78) rfl rfl (ev_pick_f rfl rfl)) ?_
                refine awpl_op rfl (opTo_q (d := 79) rfl rfl ev_move) ?_
                refine awpl_no (d := 79) rfl rfl rfl rfl ?_
                refine awpl_op rfl (opTo_q (d := 81) rfl rfl (ev_pick_f rfl rfl)) ?_
                refine awpl_op rfl (opTo_q (d := 0) rfl rfl ev_assign) ?_
                refine awpl_nil ?_
                cases hr
                exact joinK_normal _ rfl (frLe_cons rfl frLe_nil) stoLe_nil
            · replace hr := cond_f c18 hr
              refine awpl_no (d := 60) rfl rfl rfl c18 ?_
              refine awpl_no (d := 60) rfl rfl rfl c18 ?_
              refine awpl_no (d := 60) rfl rfl rfl c18 ?_
              refine awpl_op rfl (opTo_q (d := 64) rfl rfl (ev_pick_f rfl c18)) ?_
              refine awpl_op rfl (opTo_q (d := 65) rfl rfl ev_move) ?_
              refine awpl_no (d := 65) rfl rfl rfl rfl ?_
              refine awpl_no (d := 65) rfl rfl rfl rfl ?_
              refine awpl_no (d := 65) rfl rfl rfl rfl ?_
              refine awpl_op rfl (opTo_q (d := 69) rfl rfl (ev_pick_f rfl rfl)) ?_
              refine awpl_op rfl (opTo_q (d := 70) rfl rfl ev_move) ?_
              refine awpl_no (d := 70) rfl rfl rfl rfl ?_
              refine awpl_no (d := 70) rfl rfl rfl rfl ?_
              refine awpl_no (d := 70) rfl rfl rfl rfl ?_
              refine awpl_op rfl (opTo_q (d := 74) rfl rfl (ev_pick_f rfl rfl)) ?_
              refine awpl_op rfl (opTo_q (d := 75) rfl rfl ev_move) ?_
              refine awpl_no (d := 75) rfl rfl rfl rfl ?_
              refine awpl_no (d := 75) rfl rfl rfl rfl ?_
              refine awpl_op rfl (opTo_q (d := 78) rfl rfl (ev_pick_f rfl rfl)) ?_
              refine awpl_op rfl (opTo_q (d := 79) rfl rfl ev_move) ?_
              refine awpl_no (d := 79) rfl rfl rfl rfl ?_
              refine awpl_op rfl (opTo_q (d := 81) rfl rfl (ev_pick_f rfl rfl)) ?_
              refine awpl_op rfl (opTo_q (d := 0) rfl rfl ev_assign) ?_
              refine awpl_nil ?_
              cases hr
              exact joinK_normal _ rfl (frLe_cons rfl frLe_nil) stoLe_nil
          · replace hr := cond_f c15 hr
            refine awp_drawn 21 [(57, .tup []), (56, .tup []), (55, .bo ((allEq [(v7.2.Code == v13.Code), (v7.2.Index == v13.Index)]))), (54, .bo ((allEq [(v7.2.Code == v13.Code), (v7.2.Index == v13.Index)]))), (53, .bo ((allEq [(v7.2.Code == v13.Code), (v7.2.Index == v13.Index)]))), (52, .agg [.i v13.Code, .i v13.Index]), (51, .agg [.i v7.2.Code, .i v7.2.Index]), (50, .bo ((v5.2.2.2.Code == 0))), (49, .bo ((v5.2.2.2.Code == 0))), (48, .bo ((v5.2.2.2.Code == 0))), (47, .i v5.2.2.2.Code), (46, .ptr 9 0), (45, .bo ((v3.2.Code == 0))), (44, .bo ((v3.2.Code == 0))), (43, .bo ((v3.2.Code == 0))), (42, .i v3.2.Code), (41, .ptr 5 0), (40, .bo ((v1.2.2.Code == 0))), (39, .bo ((v1.2.2.Code == 0))), (38, .i v1.2.2.Code), (37, .ptr 3 0)] mixed (by kernel_rfl) rfl rfl (.run (.plain rfl) (opG_q (ev_fieldAddr rfl ty_api_Fault.u rfl ty_int rfl)) (.run (.plain rfl) (opG_q (ev_load rfl rfl ty_int rfl rfl)) (.run (.plain rfl) (opG_q (ev_eql rfl rfl)) (.run (.plain rfl) (opG_q ev_move) (.run (.yes (d := 40) rfl rfl rfl c10) (opG_q (ev_fieldAddr rfl ty_api_Fault.u rfl ty_int rfl)) (.run (.yes (d := 40) rfl rfl rfl c10) (opG_q (ev_load rfl rfl ty_int rfl rfl)) (.run (.yes (d := 40) rfl rfl rfl c10) (opG_q (ev_eql rfl rfl)) (.run (.plain rfl) (opG_q (ev_pick_t rfl c10)) (.run (.plain rfl) (opG_q ev_move) (.run (.yes (d := 45) rfl rfl rfl c11) (opG_q (ev_fieldAddr rfl ty_api_Fault.u rfl ty_int rfl)) (.run (.yes (d := 45) rfl rfl rfl c11) (opG_q (ev_load rfl rfl ty_int rfl rfl)) (.run (.yes (d := 45) rfl rfl rfl c11) (opG_q (ev_eql rfl rfl)) (.run (.plain rfl) (opG_q (ev_pick_t rfl c11)) (.run (.plain rfl) (opG_q ev_move) (.run (.yes (d := 50) rfl rfl rfl c12) (opG_q (ev_loadN rfl rfl ty_api_Fault rfl rfl)) (.run (.yes (d := 50) rfl rfl rfl c12) (opG_call (R_At_run 5 ((-2)) v13 h14) rfl) (.run (.yes (d := 50) rfl rfl rfl c12) (opG_q (ev_structeq rfl rfl ty_api_Fault cmp_api_Fault (.int rfl (by decide) ty_int (.int rfl (by decide) ty_int .nil)))) (.run (.plain rfl) (opG_q (ev_pick_t rfl c12)) (.run (.plain rfl) (opG_q ev_move) (.skip (.no (d := 55) rfl rfl rfl c15) (.skip (.no (d := 55) rfl rfl rfl c15) .nil))))))))))))))))))))) rfl ?_
            refine awpl_no (d := 55) rfl rfl rfl c15 ?_
            refine awpl_op rfl (opTo_q (d := 59) rfl rfl (ev_pick_f rfl c15)) ?_
            refine awpl_op rfl (opTo_q (d := 60) rfl rfl ev_move) ?_
            refine awpl_no (d := 60) rfl rfl rfl rfl ?_
            refine awpl_no (d := 60) rfl rfl rfl rfl ?_
            refine awpl_no (d := 60) rfl rfl rfl rfl ?_
            refine awpl_op rfl (opTo_q (d := 64) rfl rfl (ev_pick_f rfl rfl)) ?_
            refine awpl_op rfl (opTo_q (d := 65) rfl rfl ev_move) ?_
            refine awpl_no (d := 65) rfl rfl rfl rfl ?_
            refine awpl_no (d := 65) rfl rfl rfl rfl ?_
            refine awpl_no (d := 65) rfl rfl rfl rfl ?_
            refine awpl_op rfl (opTo_q (d := 69) rfl rfl (ev_pick_f rfl rfl)) ?_
            refine awpl_op rfl (opTo_q (d := 70) rfl rfl ev_move) ?_
            refine awpl_no (d := 70) rfl rfl rfl rfl ?_
            refine awpl_no (d := 70) rfl rfl rfl rfl ?_
            refine awpl_no (d := 70) rfl rfl rfl rfl ?_
            refine awpl_op rfl (opTo_q (d := 74) rfl rfl (ev_pick_f rfl rfl)) ?_
            refine awpl_op rfl (opTo_q (d := 75) rfl rfl ev_move) ?_
            refine awpl_no (d := 75) rfl rfl rfl rfl ?_
            refine awpl_no (d := 75) rfl rfl rfl rfl ?_
            refine awpl_op rfl (opTo_q (d := 78) rfl rfl (ev_pick_f rfl rfl)) ?_
            refine awpl_op rfl (opTo_q (d := 79) rfl rfl ev_move) ?_
            refine awpl_no (d := 79) rfl rfl rfl rfl ?_
            refine awpl_op rfl (opTo_q (d := 81) rfl rfl (ev_pick_f rfl rfl)) ?_
            refine awpl_op rfl (opTo_q (d := 0) rfl rfl ev_assign) ?_
            refine awpl_nil ?_
            cases hr
            exact joinK_normal _ rfl (frLe_cons rfl frLe_nil) stoLe_nil
        · replace hr := cond_f c12 hr
          refine awp_drawn 21 [(57, .tup []), (56, .tup []), (55, .bo false), (54, .bo false), (53, .tup []), (52, .tup []), (51, .tup []), (50, .bo ((v5.2.2.2.Code == 0))), (49, .bo ((v5.2.2.2.Code == 0))), (48, .bo ((v5.2.2.2.Code == 0))), (47, .i v5.2.2.2.Code), (46, .ptr 9 0), (45, .bo ((v3.2.Code == 0))), (44, .bo ((v3.2.Code == 0))), (43, .bo ((v3.2.Code == 0))), (42, .i v3.2.Code), (41, .ptr 5 0), (40, .bo ((v1.2.2.Code == 0))), (39, .bo ((v1.2.2.Code == 0))), (38, .i v1.2.2.Code), (37, .ptr 3 0)] mixed (by kernel_rfl) rfl rfl (.run (.plain rfl) (opG_q (ev_fieldAddr rfl ty_api_Fault.u rfl ty_int rfl)) (.run (.plain rfl) (opG_q (ev_load rfl rfl ty_int rfl rfl)) (.run (.plain rfl) (opG_q (ev_eql rfl rfl)) (.run (.plain rfl) (opG_q ev_move) (.run (.yes (d := 40) rfl rfl rfl c10) (opG_q (ev_fieldAddr rfl ty_api_Fault.u rfl ty_int rfl)) (.run (.yes (d := 40) rfl rfl rfl c10) (opG_q (ev_load rfl rfl ty_int rfl rfl)) (.run (.yes (d := 40) rfl rfl rfl c10) (opG_q (ev_eql rfl rfl)) (.run (.plain rfl) (opG_q (ev_pick_t rfl c10)) (.run (.plain rfl) (opG_q ev_move) (.run (.yes (d := 45) rfl rfl rfl c11) (opG_q (ev_fieldAddr rfl ty_api_Fault.u rfl ty_int rfl)) (.run (.yes (d := 45) rfl rfl rfl c11) (opG_q (ev_load rfl rfl ty_int rfl rfl)) (.run (.yes (d := 45) rfl rfl rfl c11) (opG_q (ev_eql rfl rfl)) (.run (.plain rfl) (opG_q (ev_pick_t rfl c11)) (.run (.plain rfl) (opG_q ev_move) (.skip (.no (d := 50) rfl rfl rfl c12) (.skip (.no (d := 50) rfl rfl rfl c12) (.skip (.no (d := 50) rfl rfl rfl c12) (.run (.plain rfl) (opG_q (ev_pick_f rfl c12)) (.run (.plain rfl) (opG_q ev_move) (.skip (.no (d := 55) rfl rfl rfl rfl) (.skip (.no (d := 55) rfl rfl rfl rfl) .nil))))))))))))))))))))) rfl ?_
          refine awpl_no (d := 55) rfl rfl rfl rfl ?_
          refine awpl_op rfl (opTo_q (d := 59) rfl rfl (ev_pick_f rfl rfl)) ?_
          refine awpl_op rfl (opTo_q (d := 60) rfl rfl ev_move) ?_
          refine awpl_no (d := 60) rfl rfl rfl rfl ?_
          refine awpl_no (d := 60) rfl rfl rfl rfl ?_
          refine awpl_no (d := 60) rfl rfl rfl rfl ?_
          refine awpl_op rfl (opTo_q (d := 64) rfl rfl (ev_pick_f rfl rfl)) ?_
          refine awpl_op rfl (opTo_q (d := 65) rfl rfl ev_move) ?_
          refine awpl_no (d := 65) rfl rfl rfl rfl ?_
          refine awpl_no (d := 65) rfl rfl rfl rfl ?_
          refine awpl_no (d := 65) rfl rfl rfl rfl ?_
          refine awpl_op rfl (opTo_q (d := 69) rfl rfl (ev_pick_f rfl rfl)) ?_
          refine awpl_op rfl (opTo_q (d := 70) rfl rfl ev_move) ?_
          refine awpl_no (d := 70) rfl rfl rfl rfl ?_
          refine awpl_no (d := 70) rfl rfl rfl rfl ?_
          refine awpl_no (d := 70) rfl rfl rfl rfl ?_
          refine awpl_op rfl (opTo_q (d := 74) rfl rfl (ev_pick_f rfl rfl)) ?_
          refine awpl_op rfl (opTo_q (d := 75) rfl rfl ev_move) ?_
          refine awpl_no (d := 75) rfl rfl rfl rfl ?_
          refine awpl_no (d := 75) rfl rfl rfl rfl ?_
          refine awpl_op rfl (opTo_q (d := 78) rfl rfl (ev_pick_f rfl rfl)) ?_
          refine awpl_op rfl (opTo_q (d := 79) rfl rfl ev_move) ?_
          refine awpl_no (d := 79) rfl rfl rfl rfl ?_
          refine awpl_op rfl (opTo_q (d := 81) rfl rfl (ev_pick_f rfl rfl)) ?_
          refine awpl_op rfl (opTo_q (d := 0) rfl rfl ev_assign) ?_
          refine awpl_nil ?_
          cases hr
          exact joinK_normal _ rfl (frLe_cons rfl frLe_nil) stoLe_nil
      · replace hr := cond_f c11 hr
        refine awp_drawn 21 [(57, .tup []), (56, .tup []), (55, .bo false), (54, .bo false), (53, .tup []), (52, .tup []), (51, .tup []), (50, .bo false), (49, .bo false), (48, .tup []), (47, .tup []), (46, .tup []), (45, .bo ((v3.2.Code == 0))), (44, .bo ((v3.2.Code == 0))), (43, .bo ((v3.2.Code == 0))), (42, .i v3.2.Code), (41, .ptr 5 0), (40, .bo ((v1.2.2.Code == 0))), (39, .bo ((v1.2.2.Code == 0))), (38, .i v1.2.2.Code), (37, .ptr 3 0)] mixed (by kernel_rfl) rfl rfl (.run (.plain rfl) (opG_q (ev_fieldAddr rfl ty_api_Fault.u rfl ty_int rfl)) (.run (.plain rfl) (opG_q (ev_load rfl rfl ty_int rfl rfl)) (.run (.plain rfl) (opG_q (ev_eql rfl rfl)) (.run (.plain rfl) (opG_q ev_move) (.run (.yes (d := 40) rfl rfl rfl c10) (opG_q (ev_fieldAddr rfl ty_api_Fault.u rfl ty_int rfl)) (.run (.yes (d := 40) rfl rfl rfl c10) (opG_q (ev_load rfl rfl ty_int rfl rfl)) (.run (.yes (d := 40) rfl rfl rfl c10) (opG_q (ev_eql rfl rfl)) (.run (.plain rfl) (opG_q (ev_pick_t rfl c10)) (.run (.plain rfl) (opG_q ev_move) (.skip (.no (d := 45) rfl rfl rfl c11) (.skip (.no (d := 45) rfl rfl rfl c11) (.skip (.no (d := 45) rfl rfl rfl c11) (.run (.plain rfl) (opG_q (ev_pick_f rfl c11)) (.run (.plain rfl) (opG_q ev_move) (.skip (.no (d := 50) rfl rfl rfl rfl) (.skip (.no (d := 50) rfl rfl rfl rfl) (.skip (.no (d := 50) rfl rfl rfl rfl) (.run (.plain rfl) (opG_q (ev_pick_f rfl rfl)) (.run (.plain rfl) (opG_q ev_move) (.skip (.no (d := 55) rfl rfl rfl rfl) (.skip (.no (d := 55) rfl rfl rfl rfl) .nil))))))))))))))))))))) rfl ?_
        refine awpl_no (d := 55) rfl rfl rfl rfl ?_
        refine awpl_op rfl (opTo_q (d := 59) rfl rfl (ev_pick_f rfl rfl)) ?_
        refine awpl_op rfl (opTo_q (d := 60) rfl rfl ev_move) ?_
        refine awpl_no (d := 60) rfl rfl rfl rfl ?_
        refine awpl_no (d := 60) rfl rfl rfl rfl ?_
        refine awpl_no (d := 60) rfl rfl rfl rfl ?_
        refine awpl_op rfl (opTo_q (d := 64) rfl rfl (ev_pick_f rfl rfl)) ?_
        refine awpl_op rfl (opTo_q (d := 65) rfl rfl ev_move) ?_
        refine awpl_no (d := 65) rfl rfl rfl rfl ?_
        refine awpl_no (d := 65) rfl rfl rfl rfl ?_
        refine awpl_no (d := 65) rfl rfl rfl rfl ?_
        refine awpl_op rfl (opTo_q (d := 69) rfl rfl (ev_pick_f rfl rfl)) ?_
        refine awpl_op rfl (opTo_q (d := 70) rfl rfl ev_move) ?_
        refine awpl_no (d := 70) rfl rfl rfl rfl ?_
        refine awpl_no (d := 70) rfl rfl rfl rfl ?_
        refine awpl_no (d := 70) rfl rfl rfl rfl ?_
        refine awpl_op rfl (opTo_q (d := 74) rfl rfl (ev_pick_f rfl rfl)) ?_
        refine awpl_op rfl (opTo_q (d := 75) rfl rfl ev_move) ?_
        refine awpl_no (d := 75) rfl rfl rfl rfl ?_
        refine awpl_no (d := 75) rfl rfl rfl rfl ?_
        refine awpl_op rfl (opTo_q (d := 78) rfl rfl (ev_pick_f rfl rfl)) ?_
        refine awpl_op rfl (opTo_q (d := 79) rfl rfl ev_move) ?_
        refine awpl_no (d := 79) rfl rfl rfl rfl ?_
        refine awpl_op rfl (opTo_q (d := 81) rfl rfl (ev_pick_f rfl rfl)) ?_
        refine awpl_op rfl (opTo_q (d := 0) rfl rfl ev_assign) ?_
        refine awpl_nil ?_
        cases hr
        exact joinK_normal _ rfl (frLe_cons rfl frLe_nil) stoLe_nil
    · replace hr := cond_f c10 hr
      refine awp_drawn 21 [(57, .tup []), (56, .tup []), (55, .bo false), (54, .bo false), (53, .tup []), (52, .tup []), (51, .tup []), (50, .bo false), (49, .bo false), (48, .tup []), (47, .tup []), (46, .tup []), (45, .bo false), (44, .bo false), (43, .tup []), (42, .tup []), (41, .tup []), (40, .bo ((v1.2.2.Code == 0))), (39, .bo ((v1.2.2.Code == 0))), (38, .i v1.2.2.Code), (37, .ptr 3 0)] mixed (by kernel_rfl) rfl rfl (.run (.plain rfl) (opG_q (ev_fieldAddr rfl ty_api_Fault.u rfl ty_int rfl)) (.run (.plain rfl) (opG_q (ev_load rfl rfl ty_int rfl rfl)) (.run (.plain rfl) (opG_q (ev_eql rfl rfl)) (.run (.plain rfl) (opG_q ev_move) (.skip (.no (d := 40) rfl rfl rfl c10) (.skip (.no (d := 40) rfl rfl rfl c10) (.skip (.no (d := 40) rfl rfl rfl c10) (.run (.plain rfl) (opG_q (ev_pick_f rfl c10)) (.run (.plain rfl) (opG_q ev_move) (.skip (.no (d := 45) rfl rfl rfl rfl) (.skip (.no (d := 45) rfl rfl rfl rfl) (.skip (.no (d := 45) rfl rfl rfl rfl) (.run (.plain rfl) (opG_q (ev_pick_f rfl rfl)) (.run (.plain rfl) (opG_q ev_move) (.skip (.no (d := 50) rfl rfl rfl rfl) (.skip (.no (d := 50) rfl rfl rfl rfl) (.skip (.no (d := 50) rfl rfl rfl rfl) (.run (.plain rfl) (opG_q (ev_pick_f rfl rfl)) (.run (.plain rfl) (opG_q ev_move) (.skip (.no (d := 55) rfl rfl rfl rfl) (.skip (.no (d := 55) rfl rfl rfl rfl) .nil))))))))))))))))))))) rfl ?_
      refine awpl_no (d := 55) rfl rfl rfl rfl ?_
      refine awpl_op rfl (opTo_q (d := 59) rfl rfl (ev_pick_f rfl rfl)) ?_
      refine awpl_op rfl (opTo_q (d := 60) rfl rfl ev_move) ?_
      refine awpl_no (d := 60) rfl rfl rfl rfl ?_
      refine awpl_no (d := 60) rfl rfl rfl rfl ?_
      refine awpl_no (d := 60) rfl rfl rfl rfl ?_
      refine awpl_op rfl (opTo_q (d := 64) rfl rfl (ev_pick_f rfl rfl)) ?_
      refine awpl_op rfl (opTo_q (d := 65) rfl rfl ev_move) ?_
      refine awpl_no (d := 65) rfl rfl rfl rfl ?_
      refine awpl_no (d := 65) rfl rfl rfl rfl ?_
      refine awpl_no (d := 65) rfl rfl rfl rfl ?_
      refine awpl_op rfl (opTo_q (d := 69) rfl rfl (ev_pick_f rfl rfl)) ?_
      refine awpl_op rfl (opTo_q (d := 70) rfl rfl ev_move) ?_
      refine awpl_no (d := 70) rfl rfl rfl rfl ?_
      refine awpl_no (d := 70) rfl rfl rfl rfl ?_
      refine awpl_no (d := 70) rfl rfl rfl rfl ?_
      refine awpl_op rfl (opTo_q (d := 74) rfl rfl (ev_pick_f rfl rfl)) ?_
      refine awpl_op rfl (opTo_q (d := 75) rfl rfl ev_move) ?_
      refine awpl_no (d := 75) rfl rfl rfl rfl ?_
      refine awpl_no (d := 75) rfl rfl rfl rfl ?_
      refine awpl_op rfl (opTo_q (d := 78) rfl rfl (ev_pick_f rfl rfl)) ?_
      refine awpl_op rfl (opTo_q (d := 79) rfl rfl ev_move) ?_
      refine awpl_no (d := 79) rfl rfl rfl rfl ?_
      refine awpl_op rfl (opTo_q (d := 81) rfl rfl (ev_pick_f rfl rfl)) ?_
      refine awpl_op rfl (opTo_q (d := 0) rfl rfl ev_assign) ?_
      refine awpl_nil ?_
      cases hr
      exact joinK_normal _ rfl (frLe_cons rfl frLe_nil) stoLe_nil
  · rintro _ rfl
    have hr := hy
    clear hx hy
    refine awp_ret ?_
    cases hr
    exact kret' rfl (.cons (res_tmp rfl) .nil) rfl
end Go.Proofs.Ytlpmbmilnoncdaa

/- A function of the program computes what its Lean function does. Written by program. -/
namespace Go.Proofs.Ytlpmbmilnoncdaa
open Go.RowKit
set_option maxRecDepth 100000
set_option maxHeartbeats 40000000
set_option linter.unusedVariables false
theorem R_Lines_run (a0 : List UInt8) (r : (List Str) × (List UInt8)) (hr : R_Lines a0 = some r) : Run Try.prog 22 [.l cU a0] (.tup [.l cS r.1, .l cU r.2]) := by
  unfold R_Lines at hr
  refine run_of_awp (fn := Try.f22) ⟨Try.func22, rfl, by kernel_rfl⟩ rfl (fun _ => rfl) fun g0 hg => ?_
  refine awp_seq ?_
  refine awp_region ?_
  refine awpl_op rfl (opTo_q (d := 2) rfl rfl ev_assign) ?_
  refine awpl_op rfl (opTo_q (d := 3) rfl rfl ev_assign) ?_
  refine awpl_nil ?_
  refine kthen_normal ?_
  refine awp_seq ?_
  refine awp_region ?_
  refine awpl_op rfl (opTo_q (d := 4) rfl rfl ev_assign) ?_
  refine awpl_adopt 1004 (d := 4) 9 1 rfl rfl rfl ?_
  refine awpl_nil ?_
  refine kthen_normal ?_
  refine awp_seq ?_
  refine awp_region ?_
  refine awpl_op rfl (opTo_q (d := 5) rfl rfl ev_assign) ?_
  refine awpl_nil ?_
  refine kthen_normal ?_
  refine awp_seq ?_
  refine awp_seq ?_
  refine awp_region ?_
  refine awpl_op rfl (opTo_q (d := 6) rfl rfl ev_assign) ?_
  refine awpl_nil ?_
  refine kthen_normal ?_
  refine awp_block ?_
  obtain ⟨b2, hl, hr⟩ := bind_some hr
  refine awp_loop (R_Lines_l1 a0) (fun s1 => [(0, .l cU a0), (4, .hs 1004 0), (5, .i s1.1), (6, .i s1.2.1)]) (fun s1 => [(1004, .row 9 false 1 (List.map cS s1.2.2))]) (fun b2 => At (.exit 0) [(0, .l cU a0), (4, .hs 1004 0), (5, .i b2.1)] [(1004, .row 9 false 1 (List.map cS b2.2))]) ?_ ((0, 1, ([] : List Str))) hl (frLe_cons rfl (frLe_cons rfl (frLe_cons rfl (frLe_cons rfl frLe_nil)))) (stoLe_cons rfl stoLe_nil) ?_
  · intro s1 x3 hr
    unfold R_Lines_l1 at hr
    refine awp_seq ?_
    refine awp_seq ?_
    refine awp_region ?_
    refine awpl_op rfl (opTo_q (d := 7) rfl rfl ev_move) ?_
    refine awpl_op rfl (opTo_q (d := 8) rfl rfl ev_move) ?_
    refine awpl_op rfl (opTo_q (d := 9) rfl rfl (ev_llen (f := cU) rfl ty_s_uint8.u)) ?_
    refine awpl_op rfl (opTo_q (d := 10) rfl rfl (ev_lss rfl rfl)) ?_
    refine awpl_nil ?_
    refine kthen_normal ?_
    refine awp_cond rfl (fun c4 => ?_) (fun c4 => ?_)
    · replace hr := cond_t c4 hr
      refine awp_skip ?_
      refine kthen_normal ?_
      obtain ⟨j5, hx, hy⟩ := bind_some hr
      refine awp_join (fun j5 => [(0, .l cU a0), (4, .hs 1004 0), (5, .i j5.1), (6, .i s1.2.1)]) (fun j5 => [(1004, .row 9 false 1 (List.map cS j5.2))]) (fun z => j5 = z) ?_ ?_
      · have hr := hx
        clear hx hy
        refine awp_block ?_
        obtain ⟨j6, hx, hy⟩ := bind_some hr
        refine awp_join (fun j6 => [(0, .l cU a0), (4, .hs 1004 0), (5, .i s1.1), (6, .i s1.2.1), (30, .bo j6)]) (fun j6 => [(1004, .row 9 false 1 (List.map cS s1.2.2))]) (fun z => j6 = z) ?_ ?_
        · have hr := hx
          clear hx hy
          refine awp_region ?_
          refine awpl_op rfl (opTo_q (d := 13) rfl rfl ev_move) ?_
          refine awpl_op rfl (opTo_q (d := 14) rfl rfl ev_move) ?_
          obtain ⟨v7, h8, hr⟩ := bind_some hr
          refine awpl_op rfl (opTo_q (d := 15) rfl rfl (ev_idx (f := cU) rfl rfl ty_s_uint8 ty_uint8 rfl h8)) ?_
          refine awpl_op rfl (opTo_q (d := 16) rfl rfl (ev_load_ep rfl ty_uint8 rfl rfl)) ?_
          refine awpl_op rfl (opTo_q (d := 17) rfl rfl (ev_eql rfl rfl)) ?_
          refine awpl_op rfl (opTo_q (d := 18) rfl rfl ev_move) ?_
          refine bool_split (((v7.toNat : Int) == 10)) (fun c9 => ?_) (fun c9 => ?_)
          · replace hr := cond_t c9 hr
            refine awpl_yes (d := 18) rfl rfl rfl c9 (opTo_q (d := 19) rfl rfl ev_move) ?_
            refine awpl_yes (d := 18) rfl rfl rfl c9 (opTo_q (d := 20) rfl rfl ev_move) ?_
            refine awpl_yes (d := 18) rfl rfl rfl c9 (opTo_q (d := 21) rfl rfl (ev_sub rfl rfl)) ?_
            obtain ⟨v10, h11, hr⟩ := bind_some hr
            refine awpl_yes (d := 18) rfl rfl rfl c9 (opTo_q (d := 22) rfl rfl (ev_idx (f := cU) rfl rfl ty_s_uint8 ty_uint8 rfl h11)) ?_
            refine awpl_yes (d := 18) rfl rfl rfl c9 (opTo_q (d := 23) rfl rfl (ev_load_ep rfl ty_uint8 rfl rfl)) ?_
            refine awpl_yes (d := 18) rfl rfl rfl c9 (opTo_q (d := 24) rfl rfl (ev_eql rfl rfl)) ?_
            refine awpl_op rfl (opTo_q (d := 25) rfl rfl (ev_pick_t rfl c9)) ?_
            refine awpl_op rfl (opTo_q (d := 26) rfl rfl ev_move) ?_
            refine bool_split (((v10.toNat : Int) == 13)) (fun c12 => ?_) (fun c12 => ?_)
            · replace hr := cond_t c12 hr
              refine awpl_yes (d := 26) rfl rfl rfl c12 (opTo_q (d := 27) rfl rfl ev_move) ?_
              refine awpl_yes (d := 26) rfl rfl rfl c12 (opTo_q (d := 28) rfl rfl ev_move) ?_
              refine awpl_yes (d := 26) rfl rfl rfl c12 (opTo_q (d := 29) rfl rfl (ev_gtr rfl rfl)) ?_
              refine awpl_op rfl (opTo_q (d := 30) rfl rfl (ev_pick_t rfl c12)) ?_
              refine awpl_nil ?_
              cases hr
              exact joinK_normal _ rfl (frLe_cons rfl (frLe_cons rfl (frLe_cons rfl (frLe_cons rfl (frLe_cons rfl frLe_nil))))) (stoLe_cons rfl stoLe_nil)
            · replace hr := cond_f c12 hr
              refine awpl_no (d := 26) rfl rfl rfl c12 ?_
              refine awpl_no (d := 26) rfl rfl rfl c12 ?_
              refine awpl_no (d := 26) rfl rfl rfl c12 ?_
              refine awpl_op rfl (opTo_q (d := 30) rfl rfl (ev_pick_f rfl c12)) ?_
              refine awpl_nil ?_
              cases hr
              exact joinK_normal _ rfl (frLe_cons rfl (frLe_cons rfl (frLe_cons rfl (frLe_cons rfl (frLe_cons rfl frLe_nil))))) (stoLe_cons rfl stoLe_nil)
          · replace hr := cond_f c9 hr
            refine awpl_no (d := 18) rfl rfl rfl c9 ?_
            refine awpl_no (d := 18) rfl rfl rfl c9 ?_
            refine awpl_no (d := 18) rfl rfl rfl c9 ?_
            refine awpl_no (d := 18) rfl rfl rfl c9 ?_
            refine awpl_no (d := 18) rfl rfl rfl c9 ?_
            refine awpl_no (d := 18) rfl rfl rfl c9 ?_
            refine awpl_op rfl (opTo_q (d := 25) rfl rfl (ev_pick_f rfl c9)) ?_
            refine awpl_op rfl (opTo_q (d := 26) rfl rfl ev_move) ?_
            refine awpl_no (d := 26) rfl rfl rfl rfl ?_
            refine awpl_no (d := 26) rfl rfl rfl rfl ?_
            refine awpl_no (d := 26) rfl rfl rfl rfl ?_
            refine awpl_op rfl (opTo_q (d := 30) rfl rfl (ev_pick_f rfl rfl)) ?_
            refine awpl_nil ?_
            cases hr
            exact joinK_normal _ rfl (frLe_cons rfl (frLe_cons rfl (frLe_cons rfl (frLe_cons rfl (frLe_cons rfl frLe_nil))))) (stoLe_cons rfl stoLe_nil)
        · rintro _ rfl
          have hr := hy
          clear hx hy
          refine awp_cond rfl (fun c13 => ?_) (fun c13 => ?_)
          · replace hr := cond_t c13 hr
            refine awp_seq ?_
            refine awp_region ?_
            refine awpl_op rfl (opTo_q (d := 31) rfl rfl ev_move) ?_
            refine awpl_op rfl (opTo_q (d := 32) rfl rfl ev_move) ?_
            refine awpl_op rfl (opTo_q (d := 33) rfl rfl ev_move) ?_
            refine awpl_op rfl (opTo_q (d := 34) rfl rfl ev_move) ?_
            refine awpl_op rfl (opTo_q (d := 35) rfl rfl (ev_sub rfl rfl)) ?_
            obtain ⟨v14, h15, hr⟩ := bind_some hr
            refine awpl_op rfl (opTo_q (d := 36) rfl rfl (ev_cutLH (F := cU) rfl rfl rfl ty_s_uint8 ty_uint8 (fun _ => rfl) h15)) ?_
            refine awpl_op rfl (opTo_q (d := 37) rfl rfl (ev_bytes2s rfl ty_s_uint8 ty_uint8 ty_string)) ?_
            refine awpl_op rfl (opTo_g (d := 38) rfl rfl (opG_lit (F := cS) (l := ([v14] : List Str)) ty_s_string ty_string rfl (fun _ => rfl) rfl rfl)) ?_
            obtain ⟨v16, h17, hr⟩ := bind_some hr
            refine awpl_op rfl (opTo_append (k := 39) (F := cS) (l := s1.2.2) (xs := (([v14] : List Str))) (lim := 8796093022208) rfl rfl rfl rfl ty_s_string ty_string rfl rfl (fun _ => rfl) rfl h17) ?_
            refine awpl_op rfl (opTo_q (d := 4) rfl rfl ev_assign) ?_
            refine awpl_nil ?_
            refine kthen_normal ?_
            refine awp_region ?_
            refine awpl_op rfl (opTo_q (d := 40) rfl rfl ev_move) ?_
            refine awpl_op rfl (opTo_q (d := 41) rfl rfl (ev_add rfl rfl)) ?_
            refine awpl_op rfl (opTo_q (d := 5) rfl rfl ev_assign) ?_
            refine awpl_nil ?_
            refine kblock_normal ?_
            cases hr
            exact joinK_normal _ rfl (frLe_cons rfl (frLe_cons rfl (frLe_cons rfl (frLe_cons rfl frLe_nil)))) (stoLe_cons rfl stoLe_nil)
          · replace hr := cond_f c13 hr
            refine awp_skip ?_
            refine kblock_normal ?_
            cases hr
            exact joinK_normal _ rfl (frLe_cons rfl (frLe_cons rfl (frLe_cons rfl (frLe_cons rfl frLe_nil)))) (stoLe_cons rfl stoLe_nil)
      · rintro _ rfl
        have hr := hy
        clear hx hy
        refine awp_region ?_
        refine awpl_op rfl (opTo_q (d := 11) rfl rfl ev_move) ?_
        refine awpl_op rfl (opTo_q (d := 12) rfl rfl (ev_add rfl rfl)) ?_
        refine awpl_op rfl (opTo_q (d := 6) rfl rfl ev_assign) ?_
        refine awpl_nil ?_
        cases hr
        exact ⟨rfl, (frLe_cons rfl (frLe_cons rfl (frLe_cons rfl (frLe_cons rfl frLe_nil)))), (stoLe_cons rfl stoLe_nil)⟩
    · replace hr := cond_f c4 hr
      refine awp_exit ?_
      refine kthen_exit ?_
      cases hr
      exact ⟨by simp, rfl, (frLe_cons rfl (frLe_cons rfl (frLe_cons rfl frLe_nil))), (stoLe_cons rfl stoLe_nil)⟩
  · intro e fr2 st2 hq
    obtain ⟨rfl, hf, hs⟩ := hq
    refine kblock_exit ?_
    refine kthen_normal ?_
    refine awp_le hf hs ?_
    refine awp_seq ?_
    obtain ⟨v18, h19, hr⟩ := bind_some hr
    refine awp_drawn 5 [(2, .hs 1004 0), (45, .l cU v18), (44, .i b2.1), (43, .l cU a0), (42, .hs 1004 0)] mixed (by kernel_rfl) rfl rfl (.run (.plain rfl) (opG_q ev_move) (.run (.plain rfl) (opG_q ev_move) (.run (.plain rfl) (opG_q ev_move) (.run (.plain rfl) (opG_q (ev_cutL (F := cU) rfl rfl ty_s_uint8 ty_uint8 (fun _ => rfl) h19)) (.run (.plain rfl) (opG_q ev_assign) .nil))))) rfl ?_
    refine awpl_op rfl (opTo_q (d := 3) rfl rfl ev_assign) ?_
    refine awpl_nil ?_
    refine kthen_normal ?_
    refine awp_pub (d := 2) (F := cS) (l := b2.2) rfl rfl ?_
    refine awp_ret ?_
    cases hr
    exact kret' rfl (.cons (res_tmp rfl) (.cons (res_tmp rfl) .nil)) rfl
end Go.Proofs.Ytlpmbmilnoncdaa

/- A function of the program computes what its Lean function does. Written by program. -/
namespace Go.Proofs.Ytlpmbmilnoncdaa
open Go.RowKit
set_option maxRecDepth 100000
set_option maxHeartbeats 40000000
set_option linter.unusedVariables false
theorem L_LinesMatchSpec_run (a0 : List UInt8) (r : Bool) (hr : L_LinesMatchSpec a0 = some r) : Run Try.prog 6 [.l cU a0] (.bo r) := by
  unfold L_LinesMatchSpec at hr
  refine run_of_awp (fn := Try.f6) ⟨Try.func6, rfl, by kernel_rfl⟩ rfl (fun _ => rfl) fun g0 hg => ?_
  refine awp_seq ?_
  refine awp_region ?_
  refine awpl_op rfl (opTo_q (d := 2) rfl rfl ev_assign) ?_
  refine awpl_nil ?_
  refine kthen_normal ?_
  refine awp_seq ?_
  refine awp_region ?_
  refine awpl_op rfl (opTo_q (d := 10) rfl rfl ev_move) ?_
  obtain ⟨v1, h2, hr⟩ := bind_some hr
  refine awpl_op rfl (opTo_call (k := 11) (lines_Split_run a0 v1 h2) rfl rfl) ?_
  refine awpl_op rfl (opTo_q (d := 9) rfl rfl ev_move) ?_
  refine awpl_op rfl (opTo_q (d := 12) rfl rfl (ev_extract rfl rfl)) ?_
  refine awpl_op rfl (opTo_q (d := 13) rfl rfl (ev_extract rfl rfl)) ?_
  refine awpl_op rfl (opTo_q (d := 14) rfl rfl (ev_extract rfl rfl)) ?_
  refine awpl_op rfl (opTo_alloc (k := 5) 5 rfl ty_api_Fault (.inr ⟨rfl, rfl⟩) rfl rfl rfl) ?_
  refine awpl_op rfl (opTo_q (d := 3) rfl rfl ev_assign) ?_
  refine awpl_op rfl (opTo_q (d := 4) rfl rfl ev_assign) ?_
  refine awpl_op rfl (opTo_store rfl rfl rfl ty_api_Fault rfl rfl) ?_
  refine awpl_nil ?_
  refine kthen_normal ?_
  refine awp_seq ?_
  refine awp_seq ?_
  refine awp_region ?_
  obtain ⟨v3, h4, hr⟩ := bind_some hr
  refine awpl_op rfl (opTo_call (k := 15) (L_splits_run  v3 h4) rfl rfl) ?_
  refine awpl_op rfl (opTo_q (d := 16) rfl rfl (ev_not rfl)) ?_
  refine awpl_nil ?_
  refine kthen_normal ?_
  refine awp_cond rfl (fun c5 => ?_) (fun c5 => ?_)
  · replace hr := cond_t c5 hr
    refine awp_seq ?_
    refine awp_region ?_
    refine awpl_op rfl (opTo_q (d := 2) rfl rfl ev_assign) ?_
    refine awpl_nil ?_
    refine kthen_normal ?_
    refine awp_ret ?_
    refine kthen_ret ?_
    cases hr
    exact kret' rfl (.cons (res_tmp rfl) .nil) rfl
  · replace hr := cond_f c5 hr
    refine awp_skip ?_
    refine kthen_normal ?_
    refine awp_seq ?_
    refine awp_seq ?_
    refine awp_region ?_
    refine awpl_op rfl (opTo_q (d := 17) rfl rfl ev_move) ?_
    refine awpl_op rfl (opTo_q (d := 18) rfl rfl (ev_llen (f := cU) rfl ty_s_uint8.u)) ?_
    refine awpl_op rfl (opTo_q (d := 19) rfl rfl (ev_gtr rfl rfl)) ?_
    refine awpl_nil ?_
    refine kthen_normal ?_
    refine awp_cond rfl (fun c6 => ?_) (fun c6 => ?_)
    · replace hr := cond_t c6 hr
      obtain ⟨j7, hx, hy⟩ := bind_some hr
      refine awp_join (fun j7 => [(2, .bo j7)]) (fun j7 => []) (fun z => j7 = z) ?_ ?_
      · have hr := hx
        clear hx hy
        obtain ⟨v8, h9, hr⟩ := bind_some hr
        refine awp_drawn 2 [(21, .agg [.i v8.Code, .i v8.Index]), (20, .agg [.i v1.2.2.Code, .i v1.2.2.Index])] mixed (by kernel_rfl) rfl rfl (.run (.plain rfl) (opG_q (ev_loadN rfl rfl ty_api_Fault rfl rfl)) (.run (.plain rfl) (opG_call (R_At_run 1 ((-1)) v8 h9) rfl) .nil)) rfl ?_
        refine awpl_op rfl (opTo_q (d := 22) rfl rfl (ev_structeq rfl rfl ty_api_Fault cmp_api_Fault (.int rfl (by decide) ty_int (.int rfl (by decide) ty_int .nil)))) ?_
        refine awpl_op rfl (opTo_q (d := 23) rfl rfl ev_move) ?_
        refine bool_split ((allEq [(v1.2.2.Code == v8.Code), (v1.2.2.Index == v8.Index)])) (fun c10 => ?_) (fun c10 => ?_)
        · replace hr := cond_t c10 hr
          refine awpl_yes (d := 23) rfl rfl rfl c10 (opTo_q (d := 24) rfl rfl ev_move) ?_
          refine awpl_yes (d := 23) rfl rfl rfl c10 (opTo_q (d := 25) rfl rfl (ev_llen (f := cS) rfl ty_s_string.u)) ?_
          refine awpl_yes (d := 23) rfl rfl rfl c10 (opTo_q (d := 26) rfl rfl (ev_eql rfl rfl)) ?_
          refine awpl_op rfl (opTo_q (d := 27) rfl rfl (ev_pick_t rfl c10)) ?_
          refine awpl_op rfl (opTo_q (d := 28) rfl rfl ev_move) ?_
          refine bool_split (((v1.1.length : Int) == 0)) (fun c11 => ?_) (fun c11 => ?_)
          · replace hr := cond_t c11 hr
            refine awpl_yes (d := 28) rfl rfl rfl c11 (opTo_q (d := 29) rfl rfl ev_move) ?_
            refine awpl_yes (d := 28) rfl rfl rfl c11 (opTo_q (d := 30) rfl rfl (ev_llen (f := cU) rfl ty_s_uint8.u)) ?_
            refine awpl_yes (d := 28) rfl rfl rfl c11 (opTo_q (d := 31) rfl rfl (ev_eql rfl rfl)) ?_
            refine awpl_op rfl (opTo_q (d := 32) rfl rfl (ev_pick_t rfl c11)) ?_
            refine awpl_op rfl (opTo_q (d := 2) rfl rfl ev_assign) ?_
            refine awpl_nil ?_
            cases hr
            exact joinK_normal _ rfl (frLe_cons rfl frLe_nil) stoLe_nil
          · replace hr := cond_f c11 hr
            refine awpl_no (d := 28) rfl rfl rfl c11 ?_
            refine awpl_no (d := 28) rfl rfl rfl c11 ?_
            refine awpl_no (d := 28) rfl rfl rfl c11 ?_
            refine awpl_op rfl (opTo_q (d := 32) rfl rfl (ev_pick_f rfl c11)) ?_
            refine awpl_op rfl (opTo_q (d := 2) rfl rfl ev_assign) ?_
            refine awpl_nil ?_
            cases hr
            exact joinK_normal _ rfl (frLe_cons rfl frLe_nil) stoLe_nil
        · replace hr := cond_f c10 hr
          refine awpl_no (d := 23) rfl rfl rfl c10 ?_
          refine awpl_no (d := 23) rfl rfl rfl c10 ?_
          refine awpl_no (d := 23) rfl rfl rfl c10 ?_
          refine awpl_op rfl (opTo_q (d := 27) rfl rfl (ev_pick_f rfl c10)) ?_
          refine awpl_op rfl (opTo_q (d := 28) rfl rfl ev_move) ?_
          refine awpl_no (d := 28) rfl rfl rfl rfl ?_
          refine awpl_no (d := 28) rfl rfl rfl rfl ?_
          refine awpl_no (d := 28) rfl rfl rfl rfl ?_
          refine awpl_op rfl (opTo_q (d := 32) rfl rfl (ev_pick_f rfl rfl)) ?_
          refine awpl_op rfl (opTo_q (d := 2) rfl rfl ev_assign) ?_
          refine awpl_nil ?_
          cases hr
          exact joinK_normal _ rfl (frLe_cons rfl frLe_nil) stoLe_nil
      · rintro _ rfl
        have hr := hy
        clear hx hy
        refine awp_ret ?_
        refine kthen_ret ?_
        cases hr
        exact kret' rfl (.cons (res_tmp rfl) .nil) rfl
    · replace hr := cond_f c6 hr
      refine awp_skip ?_
      refine kthen_normal ?_
      refine awp_seq ?_
      refine awp_region ?_
      refine awpl_op rfl (opTo_q (d := 34) rfl rfl ev_move) ?_
      obtain ⟨v12, h13, hr⟩ := bind_some hr
      refine awpl_op rfl (opTo_call (k := 35) (R_Lines_run a0 v12 h13) rfl rfl) ?_
      refine awpl_op rfl (opTo_q (d := 33) rfl rfl ev_move) ?_
      refine awpl_op rfl (opTo_q (d := 36) rfl rfl (ev_extract rfl rfl)) ?_
      refine awpl_op rfl (opTo_q (d := 37) rfl rfl (ev_extract rfl rfl)) ?_
      refine awpl_op rfl (opTo_q (d := 6) rfl rfl ev_assign) ?_
      refine awpl_op rfl (opTo_q (d := 7) rfl rfl ev_assign) ?_
      refine awpl_nil ?_
      refine kthen_normal ?_
      refine awp_seq ?_
      refine awp_seq ?_
      refine awp_region ?_
      refine awpl_op rfl (opTo_q (d := 8) rfl rfl ev_assign) ?_
      refine awpl_nil ?_
      refine kthen_normal ?_
      refine awp_block ?_
      obtain ⟨o17, hl, hr⟩ := bind_some hr
      refine awp_loop (L_LinesMatchSpec_l1 v1 v12) (fun s14 => [(3, .l cS v1.1), (4, .l cU v1.2.1), (5, .ptr 5 0), (6, .l cS v12.1), (7, .l cU v12.2), (8, .i s14)]) (fun s14 => [(5, .cells [.i v1.2.2.Code, .i v1.2.2.Index])]) (fun o => match o with | .inl b15 => At (.exit 0) [(3, .l cS v1.1), (4, .l cU v1.2.1), (5, .ptr 5 0), (6, .l cS v12.1), (7, .l cU v12.2)] [(5, .cells [.i v1.2.2.Code, .i v1.2.2.Index])] | .inr b16 => At .ret [(2, .bo b16)] []) ?_ 0 hl (frLe_cons rfl (frLe_cons rfl (frLe_cons rfl (frLe_cons rfl (frLe_cons rfl (frLe_cons rfl frLe_nil)))))) (stoLe_cons rfl stoLe_nil) ?_
      · intro s14 x18 hr
        unfold L_LinesMatchSpec_l1 at hr
        refine awp_seq ?_
        refine awp_seq ?_
        refine awp_region ?_
        refine awpl_op rfl (opTo_q (d := 38) rfl rfl ev_move) ?_
        refine awpl_op rfl (opTo_q (d := 39) rfl rfl ev_move) ?_
        refine awpl_op rfl (opTo_q (d := 40) rfl rfl (ev_llen (f := cS) rfl ty_s_string.u)) ?_
        refine awpl_op rfl (opTo_q (d := 41) rfl rfl (ev_lss rfl rfl)) ?_
        refine awpl_nil ?_
        refine kthen_normal ?_
        refine awp_cond rfl (fun c19 => ?_) (fun c19 => ?_)
        · replace hr := cond_t c19 hr
          refine awp_skip ?_
          refine kthen_normal ?_
          refine awp_seq ?_
          refine awp_block ?_
          refine awp_seq ?_
          refine awp_region ?_
          refine awpl_op rfl (opTo_q (d := 44) rfl rfl ev_move) ?_
          refine awpl_op rfl (opTo_q (d := 45) rfl rfl ev_move) ?_
          obtain ⟨v20, h21, hr⟩ := bind_some hr
          refine awpl_op rfl (opTo_q (d := 46) rfl rfl (ev_idx (f := cS) rfl rfl ty_s_string ty_string rfl h21)) ?_
          refine awpl_op rfl (opTo_q (d := 47) rfl rfl (ev_load_ep rfl ty_string rfl rfl)) ?_
          refine awpl_op rfl (opTo_q (d := 48) rfl rfl (ev_slen rfl ty_string.u)) ?_
          refine awpl_op rfl (opTo_q (d := 49) rfl rfl (ev_gtr rfl rfl)) ?_
          refine awpl_nil ?_
          refine kthen_normal ?_
          refine awp_cond rfl (fun c22 => ?_) (fun c22 => ?_)
          · replace hr := cond_t c22 hr
            obtain ⟨j23, hx, hy⟩ := bind_some hr
            refine awp_join (fun j23 => [(2, .bo j23)]) (fun j23 => []) (fun z => j23 = z) ?_ ?_
            · have hr := hx
              clear hx hy
              obtain ⟨v24, h25, hr⟩ := bind_some hr
              refine awp_drawn 3 [(52, .agg [.i v24.Code, .i v24.Index]), (51, .i s14), (50, .agg [.i v1.2.2.Code, .i v1.2.2.Index])] mixed (by kernel_rfl) rfl rfl (.run (.plain rfl) (opG_q (ev_loadN rfl rfl ty_api_Fault rfl rfl)) (.run (.plain rfl) (opG_q ev_move) (.run (.plain rfl) (opG_call (R_At_run 1 s14 v24 h25) rfl) .nil))) rfl ?_
              refine awpl_op rfl (opTo_q (d := 53) rfl rfl (ev_structeq rfl rfl ty_api_Fault cmp_api_Fault (.int rfl (by decide) ty_int (.int rfl (by decide) ty_int .nil)))) ?_
              refine awpl_op rfl (opTo_q (d := 54) rfl rfl ev_move) ?_
              refine bool_split ((allEq [(v1.2.2.Code == v24.Code), (v1.2.2.Index == v24.Index)])) (fun c26 => ?_) (fun c26 => ?_)
              · replace hr := cond_t c26 hr
                refine awpl_yes (d := 54) rfl rfl rfl c26 (opTo_q (d := 55) rfl rfl ev_move) ?_
                refine awpl_yes (d := 54) rfl rfl rfl c26 (opTo_q (d := 56) rfl rfl (ev_llen (f := cS) rfl ty_s_string.u)) ?_
                refine awpl_yes (d := 54) rfl rfl rfl c26 (opTo_q (d := 57) rfl rfl (ev_eql rfl rfl)) ?_
                refine awpl_op rfl (opTo_q (d := 58) rfl rfl (ev_pick_t rfl c26)) ?_
                refine awpl_op rfl (opTo_q (d := 59) rfl rfl ev_move) ?_
                refine bool_split (((v1.1.length : Int) == 0)) (fun c27 => ?_) (fun c27 => ?_)
                · replace hr := cond_t c27 hr
                  refine awpl_yes (d := 59) rfl rfl rfl c27 (opTo_q (d := 60) rfl rfl ev_move) ?_
                  refine awpl_yes (d := 59) rfl rfl rfl c27 (opTo_q (d := 61) rfl rfl (ev_llen (f := cU) rfl ty_s_uint8.u)) ?_
                  refine awpl_yes (d := 59) rfl rfl rfl c27 (opTo_q (d := 62) rfl rfl (ev_eql rfl rfl)) ?_
                  refine awpl_op rfl (opTo_q (d := 63) rfl rfl (ev_pick_t rfl c27)) ?_
                  refine awpl_op rfl (opTo_q (d := 2) rfl rfl ev_assign) ?_
                  refine awpl_nil ?_
                  cases hr
                  exact joinK_normal _ rfl (frLe_cons rfl frLe_nil) stoLe_nil
                · replace hr := cond_f c27 hr
                  refine awpl_no (d := 59) rfl rfl rfl c27 ?_
                  refine awpl_no (d := 59) rfl rfl rfl c27 ?_
                  refine awpl_no (d := 59) rfl rfl rfl c27 ?_
                  refine awpl_op rfl (opTo_q (d := 63) rfl rfl (ev_pick_f rfl c27)) ?_
                  refine awpl_op rfl (opTo_q (d := 2) rfl rfl ev_assign) ?_
                  refine awpl_nil ?_
                  cases hr
                  exact joinK_normal _ rfl (frLe_cons rfl frLe_nil) stoLe_nil
              · replace hr := cond_f c26 hr
                refine awpl_no (d := 54) rfl rfl rfl c26 ?_
                refine awpl_no (d := 54) rfl rfl rfl c26 ?_
                refine awpl_no (d := 54) rfl rfl rfl c26 ?_
                refine awpl_op rfl (opTo_q (d := 58) rfl rfl (ev_pick_f rfl c26)) ?_
                refine awpl_op rfl (opTo_q (d := 59) rfl rfl ev_move) ?_
                refine awpl_no (d := 59) rfl rfl rfl rfl ?_
                refine awpl_no (d := 59) rfl rfl rfl rfl ?_
                refine awpl_no (d := 59) rfl rfl rfl rfl ?_
                refine awpl_op rfl (opTo_q (d := 63) rfl rfl (ev_pick_f rfl rfl)) ?_
                refine awpl_op rfl (opTo_q (d := 2) rfl rfl ev_assign) ?_
                refine awpl_nil ?_
                cases hr
                exact joinK_normal _ rfl (frLe_cons rfl frLe_nil) stoLe_nil
            · rintro _ rfl
              have hr := hy
              clear hx hy
              refine awp_ret ?_
              refine kblock_ret ?_
              refine kthen_ret ?_
              cases hr
              exact ⟨by simp, rfl, (frLe_cons rfl frLe_nil), stoLe_nil⟩
          · replace hr := cond_f c22 hr
            refine awp_skip ?_
            refine kblock_normal ?_
            refine kthen_normal ?_
            refine awp_region ?_
            refine awpl_op rfl (opTo_q (d := 42) rfl rfl ev_move) ?_
            refine awpl_op rfl (opTo_q (d := 43) rfl rfl (ev_add rfl rfl)) ?_
            refine awpl_op rfl (opTo_q (d := 8) rfl rfl ev_assign) ?_
            refine awpl_nil ?_
            cases hr
            exact ⟨rfl, (frLe_cons rfl (frLe_cons rfl (frLe_cons rfl (frLe_cons rfl (frLe_cons rfl (frLe_cons rfl frLe_nil)))))), (stoLe_cons rfl stoLe_nil)⟩
        · replace hr := cond_f c19 hr
          refine awp_exit ?_
          refine kthen_exit ?_
          cases hr
          exact ⟨by simp, rfl, (frLe_cons rfl (frLe_cons rfl (frLe_cons rfl (frLe_cons rfl (frLe_cons rfl frLe_nil))))), (stoLe_cons rfl stoLe_nil)⟩
      · intro e fr2 st2 hq
        rcases o17 with b15 | b16
        · obtain ⟨rfl, hf, hs⟩ := hq
          refine kblock_exit ?_
          refine kthen_normal ?_
          refine awp_le hf hs ?_
          obtain ⟨j28, hx, hy⟩ := bind_some hr
          refine awp_join (fun j28 => [(2, .bo j28)]) (fun j28 => []) (fun z => j28 = z) ?_ ?_
          · have hr := hx
            clear hx hy
            refine awp_region ?_
            refine awpl_op rfl (opTo_q (d := 64) rfl rfl (ev_fieldAddr rfl ty_api_Fault.u rfl ty_int rfl)) ?_
            refine awpl_op rfl (opTo_q (d := 65) rfl rfl (ev_load rfl rfl ty_int rfl rfl)) ?_
            refine awpl_op rfl (opTo_q (d := 66) rfl rfl (ev_eql rfl rfl)) ?_
            refine awpl_op rfl (opTo_q (d := 67) rfl rfl ev_move) ?_
            refine bool_split ((v1.2.2.Code == 0)) (fun c29 => ?_) (fun c29 => ?_)
            · replace hr := cond_t c29 hr
              refine awpl_yes (d := 67) rfl rfl rfl c29 (opTo_q (d := 68) rfl rfl ev_move) ?_
              refine awpl_yes (d := 67) rfl rfl rfl c29 (opTo_q (d := 69) rfl rfl ev_move) ?_
              obtain ⟨v30, h31, hr⟩ := bind_some hr
              refine awpl_yes (d := 67) rfl rfl rfl c29 (opTo_call (k := 70) (R_Strings_run v1.1 v12.1 v30 h31) rfl rfl) ?_
              refine awpl_op rfl (opTo_q (d := 71) rfl rfl (ev_pick_t rfl c29)) ?_
              refine awpl_op rfl (opTo_q (d := 72) rfl rfl ev_move) ?_
              refine bool_split v30 (fun c32 => ?_) (fun c32 => ?_)
              · replace hr := cond_t c32 hr
                refine awpl_yes (d := 72) rfl rfl rfl c32 (opTo_q (d := 73) rfl rfl ev_move) ?_
                refine awpl_yes (d := 72) rfl rfl rfl c32 (opTo_q (d := 74) rfl rfl (ev_bytes2s rfl ty_s_uint8 ty_uint8 ty_string)) ?_
                refine awpl_yes (d := 72) rfl rfl rfl c32 (opTo_q (d := 75) rfl rfl ev_move) ?_
                refine awpl_yes (d := 72) rfl rfl rfl c32 (opTo_q (d := 76) rfl rfl (ev_bytes2s rfl ty_s_uint8 ty_uint8 ty_string)) ?_
                refine awpl_yes (d := 72) rfl rfl rfl c32 (opTo_q (d := 77) rfl rfl (ev_seql (a := v1.2.1) (b := v12.2) rfl rfl)) ?_
                refine awpl_op rfl (opTo_q (d := 78) rfl rfl (ev_pick_t rfl c32)) ?_
                refine awpl_op rfl (opTo_q (d := 2) rfl rfl ev_assign) ?_
                refine awpl_nil ?_
                cases hr
                exact joinK_normal _ rfl (frLe_cons rfl frLe_nil) stoLe_nil
              · replace hr := cond_f c32 hr
                refine awpl_no (d := 72) rfl rfl rfl c32 ?_
                refine awpl_no (d := 72) rfl rfl rfl c32 ?_
                refine awpl_no (d := 72) rfl rfl rfl c32 ?_
                refine awpl_no (d := 72) rfl rfl rfl c32 ?_
                refine awpl_no (d := 72) rfl rfl rfl c32 ?_
                refine awpl_op rfl (opTo_q (d := 78) rfl rfl (ev_pick_f rfl c32)) ?_
                refine awpl_op rfl (opTo_q (d := 2) rfl rfl ev_assign) ?_
                refine awpl_nil ?_
                cases hr
                exact joinK_normal _ rfl (frLe_cons rfl frLe_nil) stoLe_nil
            · replace hr := cond_f c29 hr
              refine awpl_no (d := 67) rfl rfl rfl c29 ?_
              refine awpl_no (d := 67) rfl rfl rfl c29 ?_
              refine awpl_no (d := 67) rfl rfl rfl c29 ?_
              refine awpl_op rfl (opTo_q (d := 71) rfl rfl (ev_pick_f rfl c29)) ?_
              refine awpl_op rfl (opTo_q (d := 72) rfl rfl ev_move) ?_
              refine awpl_no (d := 72) rfl rfl rfl rfl ?_
              refine awpl_no (d := 72) rfl rfl rfl rfl ?_
              refine awpl_no (d := 72) rfl rfl rfl rfl ?_
              refine awpl_no (d := 72) rfl rfl rfl rfl ?_
              refine awpl_no (d := 72) rfl rfl rfl rfl ?_
              refine awpl_op rfl (opTo_q (d := 78) rfl rfl (ev_pick_f rfl rfl)) ?_
              refine awpl_op rfl (opTo_q (d := 2) rfl rfl ev_assign) ?_
              refine awpl_nil ?_
              cases hr
              exact joinK_normal _ rfl (frLe_cons rfl frLe_nil) stoLe_nil
          · rintro _ rfl
            have hr := hy
            clear hx hy
            refine awp_ret ?_
            cases hr
            exact kret' rfl (.cons (res_tmp rfl) .nil) rfl
        · obtain ⟨rfl, hf, hs⟩ := hq
          refine kblock_ret ?_
          refine kthen_ret ?_
          cases hr
          exact kret' rfl (.cons (res1_le hf hs (res_tmp rfl)) .nil) rfl
end Go.Proofs.Ytlpmbmilnoncdaa

/- Small facts that all my walks use: endings, blocks, rows, frames. No program is named. -/
namespace Go.Proofs.Ytlpmbmilnoncdaa
open Go.RowKit

theorem ret_bool {a b : Bool} (h : a = b) : Ending.returned (.bool a) = .returned (.bool b) := by rw [h]
theorem ret_int {k : IntKind} {a b : Int} (h : a = b) : Ending.returned (.int k a) = .returned (.int k b) := by rw [h]

theorem take_all {α : Type} (p : α → Bool) (l : List α) (k : Nat) (h : k < l.length) : (l.take (k + 1)).all p = ((l.take k).all p && p l[k]) := by
  rw [List.take_succ_eq_append_getElem h, List.all_append]; simp
theorem all_false {α : Type} (p : α → Bool) (l : List α) (k : Nat) (h : k < l.length) (hp : p l[k] = false) : l.all p = false := by
  rw [List.all_eq_false]; exact ⟨l[k], List.getElem_mem h, by simp [hp]⟩

theorem bcell {W w1 : World} (hb : Below W.heap.size W w1) : (∀ b o, b < W.heap.size → w1.cell? ⟨b, o, none⟩ = W.cell? ⟨b, o, none⟩) ∧ (∀ b o, b < W.heap.size → w1.frozen? ⟨b, o, none⟩ = W.frozen? ⟨b, o, none⟩) :=
  ⟨fun b o h => hb.cell (p := ⟨b, o, none⟩) h, fun b o h => hb.frozen (p := ⟨b, o, none⟩) h⟩


/-- block b is just these cells, none frozen -/
def Blk (w : World) (b : Nat) (t : TypeId) (cs : Array Value) : Prop := w.heap[b]? = some (.cells cs t (0, 0))
theorem Blk.lt {w : World} {b : Nat} {t : TypeId} {cs : Array Value} (h : Blk w b t cs) : b < w.heap.size := by
  rcases Nat.lt_or_ge b w.heap.size with hlt | hge
  · exact hlt
  · unfold Blk at h; rw [Array.getElem?_eq_none hge] at h; cases h
theorem Blk.two {w : World} {b : Nat} {t : TypeId} {x y : Value} (h : Blk w b t #[x, y]) :
    w.cell? ⟨b, 0, none⟩ = some x ∧ w.cell? ⟨b, 1, none⟩ = some y ∧ w.frozen? ⟨b, 0, none⟩ = false ∧ w.frozen? ⟨b, 1, none⟩ = false ∧ b < w.heap.size := by
  refine ⟨?_, ?_, ?_, ?_, h.lt⟩ <;> unfold Blk at h <;> simp [World.cell?, World.frozen?, h]
theorem Blk.new (w : World) (t : TypeId) (cs : Array Value) : Blk (w.alloc (.cells cs t)) w.heap.size t cs := heap_alloc_new w _
theorem Blk.alloc {w : World} {b : Nat} {t : TypeId} {cs : Array Value} (h : Blk w b t cs) (o : Obj) : Blk (w.alloc o) b t cs := (Below.heap_alloc w o b h.lt).trans h
theorem Blk.below {w w' : World} {b : Nat} {t : TypeId} {cs : Array Value} {B : Nat} (h : Blk w b t cs) (hb : Below B w w') (hg : b < B) : Blk w' b t cs := (hb.block b hg).trans h

theorem val_int {k : IntKind} {a b : Int} (h : a = b) : Value.int k a = .int k b := by rw [h]
theorem tup3 {k : IntKind} {a b : Int} {x y : Value} (h : a = b) : Ending.returned (.tuple #[.int k a, x, y]) = .returned (.tuple #[.int k b, x, y]) := by rw [h]
section
variable {w1 w2 : World} {b t : Nat} {cs : Array Value} {o : Obj}
theorem Blk.step_new (hb : Below (w1.alloc (.cells cs t)).heap.size (w1.alloc (.cells cs t)) w2) : Blk w2 w1.heap.size t cs :=
  (Blk.new w1 t cs).below hb (by simp)
theorem Blk.step_old (h : Blk w1 b t cs) (hb : Below (w1.alloc o).heap.size (w1.alloc o) w2) : Blk w2 b t cs :=
  (h.alloc o).below hb (by have := h.lt; simp; omega)
end
theorem below_step {w w1 w2 : World} {o : Obj} (h : Below w.heap.size w w1) (hb : Below (w1.alloc o).heap.size (w1.alloc o) w2) : Below w.heap.size w w2 :=
  (h.alloc h.size o).trans (hb.mono (by have := h.size; simp; omega))
theorem below_trans {w w1 w2 : World} (h : Below w.heap.size w w1) (hb : Below w1.heap.size w1 w2) : Below w.heap.size w w2 :=
  h.trans (hb.mono h.size)

theorem keep2 {W w5 w6 : World} {b : Nat} {x y : Value} (h : w5.cell? ⟨b, 0, none⟩ = some x ∧ w5.cell? ⟨b, 1, none⟩ = some y ∧ Below W.heap.size W w5) (hb : b < W.heap.size) (k : Below w5.heap.size w5 w6) :
    w6.cell? ⟨b, 0, none⟩ = some x ∧ w6.cell? ⟨b, 1, none⟩ = some y ∧ Below W.heap.size W w6 := by
  have hs := h.2.2.size
  exact ⟨(k.cell (p := ⟨b, 0, none⟩) (Nat.lt_of_lt_of_le hb hs)).trans h.1, (k.cell (p := ⟨b, 1, none⟩) (Nat.lt_of_lt_of_le hb hs)).trans h.2.1, below_trans h.2.2 k⟩

/-- a slice of cells, one a value: it holds these values -/
def Row (w : World) (a : Option Addr) (len : Nat) (vs : List Value) : Prop :=
  vs.length = len ∧ (len = 0 ∨ ∃ b off, a = some ⟨b, off, none⟩ ∧ ∀ i v, vs[i]? = some v → w.cell? ⟨b, off + i, none⟩ = some v)


end Go.Proofs.Ytlpmbmilnoncdaa

/- What every law's row wants at its end: arguments of any shape read as they did where nothing that was there has turned. -/
namespace Go.Proofs.Ytlpmbmilnoncdaa
open Go.ChangeShapes Go.WideShapes Go.ChangeAt Go.RowKit
open Go.ChangeMaps (open_string shut_string)

theorem own : ownKnob Try.prog.godebug = none := by kernel_rfl
theorem laidOut : laidOutB Try.prog = true := by kernel_rfl

theorem trodAll_stays {H : Type} {enc : TypeId × Value → H} {P : Program} (hl : laidOutB P = true) {W W' : World} (hb : Below W.heap.size W W') :
    ∀ (ts : List TypeId) (vs : List Value) (ds : List (DataW H)) (ps : List MemPlace), (ts.all fun t => P.readableRec t && decide (t < P.types.size)) = true →
      DataW.TrodAll enc P W 0 (fun _ => true) true ts vs ds ps → DataW.TrodAll enc P W' 0 (fun b => decide (b < W.heap.size)) true ts vs ds ps
  | [], [], [], _, _, h => h
  | t :: ts, v :: vs, d :: ds, ps, hts, ⟨p, q, h, hs, e⟩ => by
    simp only [List.all_cons, Bool.and_eq_true, decide_eq_true_eq] at hts
    have lt : ∀ x ∈ p, x.block < W.heap.size := by obtain ⟨m, hm⟩ := h; exact DataW.trod_lt m _ _ _ hm
    exact ⟨p, q, Below.trod hl hts.1.1 hts.1.2 h hb lt, trodAll_stays hl hb ts vs ds q hts.2 hs, e⟩

/-- THE POST of a law: it returned true, and nothing that was there has turned. -/
theorem post_true {H : Type} {enc : TypeId × Value → H} {P : Program} {f : Func} {s : ChangeSpec} {t : TypeId} (hl : laidOutB P = true) (hres : f.resultTypes = #[t]) (ht : P.underlying t = some .bool)
    (hts : (f.params.toList.all fun t => P.readableRec t && decide (t < P.types.size)) = true) {W W' : World} {args : Array Value} {ds gs : List (DataW H)} {before : List MemPlace} (hv : s.vars = [])
    (hspec : s.fn H (ds ++ gs) = { results := [.lit (.bool true)], args := ds, vars := [] })
    (hW : DataW.Whole enc P f.params.toList s.vars false W args.toList ds gs before) (hb : Below W.heap.size W W') :
    s.post enc P f false true false false W args (.bool true) W' := by
  have hW' := hW
  obtain ⟨p, q, hA, hV, hbe, hfz, hnd⟩ := hW
  refine ⟨ds, gs, before, [], p, [], hW', ?_, ?_, ?_, ?_, fun h => by cases h⟩
  · rw [hspec, hres]; exact trodAll_mk1 (shut_bool ht _)
  · rw [hspec]; exact trodAll_stays hl hb _ _ _ _ hts hA
  · rw [hspec, hv]; rfl
  · have hq : q = [] := by rw [hv] at hV; cases gs with
      | nil => exact hV
      | cons g gs => exact hV.elim
    refine World.keptBut_mono (fun p hp => ⟨hp, ?_⟩) (hb.frame (· ∈ before))
    rw [hbe, hq, List.append_nil] at hp
    exact .inr (.inl hp)

/-- a slice of integers that came in -/
theorem open_row_int {H : Type} {enc : TypeId × Value → H} {P : Program} {W : World} {base : Nat} {t e : TypeId} {k : IntKind} {v : Value} {d : DataW H} {p : List MemPlace} (ht : P.underlying t = some (.slice e)) (he : P.underlying e = some (.int k)) (hc : P.cellsOf e = 1)
    (hok : Value.okWide P W .any base t v) (h : DataW.Trod enc P W 0 (fun _ => true) true t v d p) :
    ∃ (a : Option Addr) (len cap : Nat) (zs : List Int), v = .slice a len cap ∧ len ≤ maxLen ∧ Row W a len (zs.map (Value.int k)) ∧ ∀ z ∈ zs, (Lit.int k z).wf = true := by
  obtain ⟨a, len, cap, rfl⟩ := okWide_slice ht hok
  obtain ⟨fuel, hf⟩ := h
  rcases open_ints ht he hc hf with ⟨hcs, _⟩ | ⟨x, l, c, zs, hcs, _, hl, hm, hz, _, hcell, hwz⟩
  · simp [Value.cells] at hcs
    obtain ⟨rfl, rfl, rfl⟩ := hcs
    exact ⟨none, 0, 0, [], rfl, Nat.zero_le _, ⟨rfl, .inl rfl⟩, by simp⟩
  · simp [Value.cells] at hcs
    obtain ⟨rfl, rfl, rfl⟩ := hcs
    have hz : zs.length = cap := by simpa using hz
    refine ⟨_, len, cap, zs.take len, rfl, Nat.le_trans hl hm, ⟨by simp; omega, ?_⟩, fun z hz => hwz z (List.mem_of_mem_take hz)⟩
    by_cases h0 : len = 0
    · exact .inl h0
    obtain ⟨b, off, spot⟩ := x
    have hc0 := hcell 0 (by omega)
    have hspot : spot = none := by simpa [Addr.add] using World.cell?_spot hc0
    subst hspot
    refine .inr ⟨b, off, rfl, fun i v hv => ?_⟩
    rw [List.getElem?_map, List.getElem?_take] at hv
    by_cases hi : i < len
    · rw [if_pos hi] at hv
      have hi2 : i < zs.length := by omega
      have := hcell i hi2
      rw [List.getElem?_eq_getElem hi2] at hv
      simp only [Option.map_some, Option.some.injEq] at hv
      subst hv
      have ea : (⟨b, off, none⟩ : Addr).add i = ⟨b, off + i, none⟩ := by
        unfold Addr.add
        by_cases h0 : i = 0
        · simp [h0]
        · simp [h0]
      rw [ea] at this
      rw [this]
      simp [hi2]
    · rw [if_neg hi] at hv
      simp at hv

end Go.Proofs.Ytlpmbmilnoncdaa
