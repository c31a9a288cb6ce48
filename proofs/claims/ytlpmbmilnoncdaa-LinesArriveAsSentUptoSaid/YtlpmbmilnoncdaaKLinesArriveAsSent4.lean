/- The law LinesArriveAsSent holds for every input of bulk up to the given bound: it returns true and leaves its arguments as they were. Written by program. -/
import Derived.Test.YtlpmbmilnoncdaaKLinesArriveAsSent3
import Derived.WalkKit
import Derived.WalkSpells
import Derived.WalkLawsBesides
import Derived.Deep.QuietTactic
import Derived.BigQuiet
import Derived.Lib.Hide
import Derived.Handy
import Derived.Deep.RegionHeld3
import Derived.Test.YtlpmbmilnoncdaaRows
import Derived.ProofKit
import Derived.OpenShut
import Derived.ShutString
import Derived.ChangeOld
import Derived.Below
import Derived.JoinedCond
import Derived.HandedShaped
import Derived.Shelf.Vars
/- A function of the program computes what its Lean function does. Written by program. -/
namespace Go.Proofs.Ytlpmbmilnoncdaa
open Go.RowKit
set_option maxRecDepth 100000
set_option maxHeartbeats 40000000
set_option linter.unusedVariables false
theorem lines_Unstuff_run (a0 : List UInt8) (r : (List UInt8) × Int × Bool × TFault) (hr : lines_Unstuff a0 = some r) : Run Try.prog 25 [.l cU a0] (.tup [.l cU r.1, .i r.2.1, .bo r.2.2.1, .agg [.i r.2.2.2.Code, .i r.2.2.2.Index]]) := by
  unfold lines_Unstuff at hr
  refine run_of_awp (fn := Try.f25) ⟨Try.func25, rfl, by kernel_rfl⟩ rfl (fun _ => rfl) fun g0 hg => ?_
  refine awp_seq ?_
  refine awp_region ?_
  refine awpl_op rfl (opTo_alloc (k := 2) 2 rfl ty_s_uint8 (.inl rfl) rfl rfl rfl) ?_
  refine awpl_op rfl (opTo_alloc (k := 3) 3 rfl ty_int (.inl rfl) rfl rfl rfl) ?_
  refine awpl_op rfl (opTo_alloc (k := 4) 4 rfl ty_bool (.inl rfl) rfl rfl rfl) ?_
  refine awpl_op rfl (opTo_alloc (k := 5) 5 rfl ty_api_Fault (.inr ⟨rfl, rfl⟩) rfl rfl rfl) ?_
  refine awpl_nil ?_
  refine kthen_normal ?_
  refine awp_seq ?_
  refine awp_seq ?_
  refine awp_region ?_
  refine awpl_op rfl (opTo_q (d := 12) rfl rfl ev_move) ?_
  refine awpl_op rfl (opTo_q (d := 13) rfl rfl (ev_llen (f := cU) rfl ty_s_uint8.u)) ?_
  refine awpl_op rfl (opTo_q (d := 14) rfl rfl (ev_gtr rfl rfl)) ?_
  refine awpl_nil ?_
  refine kthen_normal ?_
  refine awp_cond rfl (fun c1 => ?_) (fun c1 => ?_)
  · replace hr := cond_t c1 hr
    refine awp_seq ?_
    refine awp_region ?_
    obtain ⟨v2, h3, hr⟩ := bind_some hr
    refine awpl_op rfl (opTo_call (k := 15) (basic_Fault_run 1 ((-1)) v2 h3) rfl rfl) ?_
    refine awpl_op rfl (opTo_store rfl rfl rfl ty_s_uint8 rfl rfl) ?_
    refine awpl_op rfl (opTo_store rfl rfl rfl ty_int rfl rfl) ?_
    refine awpl_op rfl (opTo_store rfl rfl rfl ty_bool rfl rfl) ?_
    refine awpl_op rfl (opTo_store rfl rfl rfl ty_api_Fault rfl rfl) ?_
    refine awpl_nil ?_
    refine kthen_normal ?_
    refine awp_ret ?_
    refine kthen_ret ?_
    cases hr
    exact kret' rfl (.cons (res_cell rfl rfl ty_s_uint8 rfl rfl) (.cons (res_cell rfl rfl ty_int rfl rfl) (.cons (res_cell rfl rfl ty_bool rfl rfl) (.cons (res_cellN rfl rfl ty_api_Fault rfl rfl) .nil)))) rfl
  · replace hr := cond_f c1 hr
    refine awp_skip ?_
    refine kthen_normal ?_
    refine awp_seq ?_
    refine awp_region ?_
    refine awpl_op rfl (opTo_alloc (k := 6) 6 rfl ty_s_uint8 (.inl rfl) rfl rfl rfl) ?_
    refine awpl_adoptC 1006 (o := 6) (j := 0) 5 1 rfl rfl rfl rfl ?_
    refine awpl_nil ?_
    refine kthen_normal ?_
    refine awp_seq ?_
    refine awp_region ?_
    refine awpl_op rfl (opTo_alloc (k := 7) 7 rfl ty_int (.inl rfl) rfl rfl rfl) ?_
    refine awpl_op rfl (opTo_store rfl rfl rfl ty_int rfl rfl) ?_
    refine awpl_nil ?_
    refine kthen_normal ?_
    refine awp_seq ?_
    refine awp_seq ?_
    refine awp_region ?_
    refine awpl_op rfl (opTo_q (d := 16) rfl rfl ev_move) ?_
    refine awpl_inl (fn := Try.f40) (args := [.l cU a0]) 900000 999999 [(0, .l cU a0), (2, .ptr 2 0), (3, .ptr 3 0), (4, .ptr 4 0), (5, .ptr 5 0), (6, .ptr 6 0), (7, .ptr 7 0)] (wanted_plain rfl) rfl ⟨Try.func40, rfl, by kernel_rfl⟩ rfl rfl (.cons rfl (.cons rfl (.cons rfl (.cons rfl (.cons rfl (.cons rfl (.cons rfl .nil))))))) fun T9 ds9 hT9 => ?_
    refine awp_seq ?_
    refine awp_region ?_
    refine awpl_op rfl (opTo_box (k := 1) 1 rfl rfl rfl rfl rfl) ?_
    refine awpl_op rfl (opTo_q (d := 2) rfl rfl ev_assign) ?_
    refine awpl_nil ?_
    refine kthen_normal ?_
    refine awp_seq ?_
    refine awp_region ?_
    refine awpl_op rfl (opTo_q (d := 3) rfl rfl (ev_makeFunc rfl rfl)) ?_
    refine awpl_op rfl (opTo_q (d := 2) rfl rfl ev_assign) ?_
    refine awpl_nil ?_
    refine kthen_normal ?_
    refine awp_ret ?_
    refine inlK (cs := [.fn (.func 57) [] [.ptr 1 0]]) (fr'' := [(0, .l cU a0), (2, .ptr 2 0), (3, .ptr 3 0), (4, .ptr 4 0), (5, .ptr 5 0), (6, .ptr 6 0), (7, .ptr 7 0)]) (σ'' := [(1, .cells [.l cU a0]), (7, .cells [.i 0]), (1006, .row 5 false 1 (List.map cU (([] : List UInt8)))), (6, .cells [.hs 1006 0]), (5, .cells [.i 0, .i 0]), (4, .cells [.bo false]), (3, .cells [.i 0]), (2, .cells [.pv (.sl (some true) [])])]) (.inl rfl) frLe_refl stoLe_refl (.cons (res_tmp rfl) .nil) (.cons rfl (.cons rfl (.cons rfl (.cons rfl (.cons rfl (.cons rfl (.cons rfl .nil))))))) rfl (stoLe_cons rfl (stoLe_cons rfl (stoLe_cons rfl (stoLe_cons rfl (stoLe_cons rfl (stoLe_cons rfl (stoLe_cons rfl (stoLe_cons rfl stoLe_nil)))))))) ?_
    refine awpl_nil ?_
    refine kthen_normal ?_
    refine awp_block ?_
    refine awp_rangef (fn0 := Try.f57) 1000000 1099998 1099999 [(0, .l cU a0), (2, .ptr 2 0), (3, .ptr 3 0), (4, .ptr 4 0), (5, .ptr 5 0), (6, .ptr 6 0), (7, .ptr 7 0), (17, .fn (.func 57) [] [.ptr 1 0])] rfl rfl rfl ⟨Try.func57, rfl, by kernel_rfl⟩ rfl rfl rfl rfl rfl (.cons rfl (.cons rfl (.cons rfl (.cons rfl (.cons rfl (.cons rfl (.cons rfl (.cons rfl .nil)))))))) fun T10 b10 L10 ds10 hT10 hLs10 hLp10 hLt10 hLq10 hLa10 hLb10 => ?_
    refine awp_seq ?_
    refine awp_region ?_
    refine awpl_op rfl (opTo_q (d := 3) rfl rfl ev_assign) ?_
    refine awpl_nil ?_
    refine kthen_normal ?_
    refine awp_block ?_
    obtain ⟨o7, hl, hr⟩ := bind_some hr
    refine awp_loop (lines_Unstuff_l1 a0) (fun s4 => [(0, .fn (.yield b10) [] []), (1, .ptr 1 0), (3, .i s4.1)]) (fun s4 => [(1099999, .sus g0.w.heap.size ds10), (1099998, .lp b10 L10), (1000000, .hold (.l cU a0) (T10.getD 0 undef)), (1000002, .hold (.ptr 2 0) (T10.getD 2 undef)), (1000003, .hold (.ptr 3 0) (T10.getD 3 undef)), (1000004, .hold (.ptr 4 0) (T10.getD 4 undef)), (1000005, .hold (.ptr 5 0) (T10.getD 5 undef)), (1000006, .hold (.ptr 6 0) (T10.getD 6 undef)), (1000007, .hold (.ptr 7 0) (T10.getD 7 undef)), (1000017, .hold (.fn (.func 57) [] [.ptr 1 0]) (T10.getD 17 undef)), (1, .cells [.l cU a0]), (7, .cells [.i s4.2.1]), (1006, .row 5 false 1 (List.map cU s4.2.2)), (6, .cells [.hs 1006 0]), (5, .cells [.i 0, .i 0]), (4, .cells [.bo false]), (3, .cells [.i 0]), (2, .cells [.l cU ([])])]) (fun o => match o with | .inl b5 => At .ret [] [(1099999, .sus g0.w.heap.size ds10), (1099998, .lp b10 L10), (1000000, .hold (.l cU a0) (T10.getD 0 undef)), (1000002, .hold (.ptr 2 0) (T10.getD 2 undef)), (1000003, .hold (.ptr 3 0) (T10.getD 3 undef)), (1000004, .hold (.ptr 4 0) (T10.getD 4 undef)), (1000005, .hold (.ptr 5 0) (T10.getD 5 undef)), (1000006, .hold (.ptr 6 0) (T10.getD 6 undef)), (1000007, .hold (.ptr 7 0) (T10.getD 7 undef)), (1000017, .hold (.fn (.func 57) [] [.ptr 1 0]) (T10.getD 17 undef)), (1, .cells [.l cU a0]), (7, .cells [.i b5.1]), (1006, .row 5 false 1 (List.map cU b5.2)), (6, .cells [.hs 1006 0]), (5, .cells [.i 0, .i 0]), (4, .cells [.bo false]), (3, .cells [.i 0]), (2, .cells [.l cU ([])])] | .inr b6 => At .ret [] [(1099999, .sus g0.w.heap.size ds10), (1099998, .lp b10 ((stop L10 .ret))), (1000000, .hold (.l cU a0) (T10.getD 0 undef)), (1000002, .hold (.ptr 2 0) (T10.getD 2 undef)), (1000003, .hold (.ptr 3 0) (T10.getD 3 undef)), (1000004, .hold (.ptr 4 0) (T10.getD 4 undef)), (1000005, .hold (.ptr 5 0) (T10.getD 5 undef)), (1000006, .hold (.ptr 6 0) (T10.getD 6 undef)), (1000007, .hold (.ptr 7 0) (T10.getD 7 undef)), (1000017, .hold (.fn (.func 57) [] [.ptr 1 0]) (T10.getD 17 undef)), (1, .cells [.l cU a0]), (7, .cells [.i b6.1]), (1006, .row 5 false 1 (List.map cU b6.2.1)), (6, .cells [.hs 1006 0]), (5, .cells [.i b6.2.2.1, .i b6.2.2.2.1]), (4, .cells [.bo b6.2.2.2.2.1]), (3, .cells [.i b6.2.2.2.2.2.1]), (2, .cells [.l cU b6.2.2.2.2.2.2])]) ?_ ((0, 0, ([] : List UInt8))) hl (frLe_cons rfl (frLe_cons rfl (frLe_cons rfl frLe_nil))) (stoLe_cons rfl (stoLe_cons rfl (stoLe_cons rfl (stoLe_cons rfl (stoLe_cons rfl (stoLe_cons rfl (stoLe_cons rfl (stoLe_cons rfl (stoLe_cons rfl (stoLe_cons rfl (stoLe_cons rfl (stoLe_cons rfl (stoLe_cons rfl (stoLe_cons rfl (stoLe_cons rfl (stoLe_cons rfl (stoLe_cons rfl (stoLe_weak rfl rfl stoLe_nil)))))))))))))))))) ?_
    · intro s4 x8 hr
      unfold lines_Unstuff_l1 at hr
      refine awp_block ?_
      refine awp_seq ?_
      refine awp_region ?_
      refine awpl_op rfl (opTo_q (d := 5) rfl rfl (ev_load rfl rfl ty_s_uint8 rfl rfl)) ?_
      refine awpl_op rfl (opTo_q (d := 6) rfl rfl ev_move) ?_
      obtain ⟨v9, h10, hr⟩ := bind_some hr
      refine awpl_op rfl (opTo_q (d := 7) rfl rfl (ev_cutL (F := cU) rfl rfl ty_s_uint8 ty_uint8 (fun _ => rfl) h10)) ?_
      refine awpl_litconv rfl (opGN_lit (F := cU) (l := ([(13 : UInt8), (10 : UInt8)] : List UInt8)) ty_s_uint8 ty_uint8 rfl (fun _ => rfl) rfl rfl) ty_s_uint8 ty_uint8 (wanted_plain rfl) (wanted_plain rfl) rfl ?_
      obtain ⟨v11, h12, hr⟩ := bind_some hr
      refine awpl_op rfl (opTo_call (k := 10) (bytes_Index_run v9 (([(13 : UInt8), (10 : UInt8)] : List UInt8)) v11 h12) rfl rfl) ?_
      refine awpl_op rfl (opTo_q (d := 4) rfl rfl ev_assign) ?_
      refine awpl_nil ?_
      refine kthen_normal ?_
      refine awp_seq ?_
      refine awp_seq ?_
      refine awp_region ?_
      refine awpl_op rfl (opTo_q (d := 11) rfl rfl ev_move) ?_
      refine awpl_op rfl (opTo_q (d := 12) rfl rfl (ev_lss rfl rfl)) ?_
      refine awpl_op rfl (opTo_q (d := 13) rfl rfl ev_move) ?_
      refine bool_split (decide (v11 < 0)) (fun c13 => ?_) (fun c13 => ?_)
      · replace hr := cond_t c13 hr
        refine awpl_no (d := 13) rfl rfl rfl c13 ?_
        refine awpl_no (d := 13) rfl rfl rfl c13 ?_
        refine awpl_no (d := 13) rfl rfl rfl c13 ?_
        refine awpl_no (d := 13) rfl rfl rfl c13 ?_
        refine awpl_no (d := 13) rfl rfl rfl c13 ?_
        refine awpl_no (d := 13) rfl rfl rfl c13 ?_
        refine awpl_no (d := 13) rfl rfl rfl c13 ?_
        refine awpl_no (d := 13) rfl rfl rfl c13 ?_
        refine awpl_no (d := 13) rfl rfl rfl c13 ?_
        refine awpl_no (d := 13) rfl rfl rfl c13 ?_
        refine awpl_no (d := 13) rfl rfl rfl c13 ?_
        refine awpl_no (d := 13) rfl rfl rfl c13 ?_
        refine awpl_no (d := 13) rfl rfl rfl c13 ?_
        refine awpl_op rfl (opTo_q (d := 27) rfl rfl (ev_pick_t rfl c13)) ?_
        refine awpl_nil ?_
        refine kthen_normal ?_
        refine awp_cond (t := true) rfl (fun _ => ?_) (fun h => nomatch h)
        refine awp_ret ?_
        refine kthen_ret ?_
        refine kblock_ret ?_
        cases hr
        exact ⟨by simp, rfl, frLe_nil, (stoLe_cons rfl (stoLe_cons rfl (stoLe_cons rfl (stoLe_cons rfl (stoLe_cons rfl (stoLe_cons rfl (stoLe_cons rfl (stoLe_cons rfl (stoLe_cons rfl (stoLe_cons rfl (stoLe_cons rfl (stoLe_cons rfl (stoLe_cons rfl (stoLe_cons rfl (stoLe_cons rfl (stoLe_cons rfl (stoLe_cons rfl (stoLe_cons rfl stoLe_nil))))))))))))))))))⟩
      · replace hr := cond_f c13 hr
        refine awpl_yes (d := 13) rfl rfl rfl c13 (opTo_q (d := 14) rfl rfl ev_move) ?_
        refine awpl_yes (d := 13) rfl rfl rfl c13 (opTo_q (d := 15) rfl rfl (ev_load rfl rfl ty_s_uint8 rfl rfl)) ?_
        refine awpl_yes (d := 13) rfl rfl rfl c13 (opTo_q (d := 16) rfl rfl ev_move) ?_
        refine awpl_yes (d := 13) rfl rfl rfl c13 (opTo_q (d := 17) rfl rfl ev_move) ?_
        refine awpl_yes (d := 13) rfl rfl rfl c13 (opTo_q (d := 18) rfl rfl ev_move) ?_
        refine awpl_yes (d := 13) rfl rfl rfl c13 (opTo_q (d := 19) rfl rfl (ev_add rfl rfl)) ?_
        obtain ⟨v14, h15, hr⟩ := bind_some hr
        refine awpl_yes (d := 13) rfl rfl rfl c13 (opTo_q (d := 20) rfl rfl (ev_cutLH (F := cU) rfl rfl rfl ty_s_uint8 ty_uint8 (fun _ => rfl) h15)) ?_
        refine awpl_yes (d := 13) rfl rfl rfl c13 (opTo_q (d := 21) rfl rfl ev_move) ?_
        refine awpl_yes (d := 13) rfl rfl rfl c13 (opTo_q (d := 22) rfl rfl ev_move) ?_
        refine awpl_yes (d := 13) rfl rfl rfl c13 (opTo_q (d := 23) rfl rfl (ev_add rfl rfl)) ?_
        refine awpl_yes (d := 13) rfl rfl rfl c13 (opTo_q (d := 24) rfl rfl (ev_add rfl rfl)) ?_
        refine awpl_yieldf (ps := [18, 19]) (args := [.l cU v14, .i ((w64 ((w64 (s4.1 + v11)) + 2)))]) 1000000 1600000 1099998 1699999 [(0, .l cU a0), (2, .ptr 2 0), (3, .ptr 3 0), (4, .ptr 4 0), (5, .ptr 5 0), (6, .ptr 6 0), (7, .ptr 7 0), (17, .fn (.func 57) [] [.ptr 1 0])] [(0, .fn (.yield b10) [] []), (1, .ptr 1 0), (3, .i s4.1), (4, .i v11), (13, .bo (decide (v11 < 0))), (14, .fn (.yield b10) [] []), (15, .l cU a0), (16, .i s4.1), (17, .i s4.1), (18, .i v11), (19, .i ((w64 (s4.1 + v11)))), (20, .l cU v14), (21, .i s4.1), (22, .i v11), (23, .i ((w64 (s4.1 + v11)))), (24, .i ((w64 ((w64 (s4.1 + v11)) + 2))))] (wanted_yes (d := 13) rfl rfl rfl c13) rfl rfl hLs10 hLp10 hLt10 hLq10 hLa10 hLb10 hT10 rfl rfl rfl rfl (.cons rfl (.cons rfl (.cons rfl (.cons rfl (.cons rfl (.cons rfl (.cons rfl (.cons rfl (.cons rfl (.cons rfl (.cons rfl (.cons rfl (.cons rfl (.cons rfl (.cons rfl (.cons rfl .nil)))))))))))))))) (.cons rfl (.cons rfl (.cons rfl (.cons rfl (.cons rfl (.cons rfl (.cons rfl (.cons rfl .nil)))))))) fun T16 ds16 hT16 => ?_
        refine awp_seq ?_
        refine awp_region ?_
        refine awpl_op rfl (opTo_q (d := 8) rfl rfl ev_assign) ?_
        refine awpl_nil ?_
        refine kthen_normal ?_
        refine awp_region ?_
        refine awpl_op rfl (opTo_q (d := 9) rfl rfl ev_assign) ?_
        refine awpl_nil ?_
        refine asgK frLe_refl stoLe_refl rfl ?_
        refine awp_block ?_
        refine awp_seq ?_
        refine awp_region ?_
        refine awpl_op rfl (opTo_q (d := 20) rfl rfl ev_move) ?_
        refine awpl_op rfl (opTo_store rfl rfl rfl ty_int rfl rfl) ?_
        refine awpl_nil ?_
        refine kthen_normal ?_
        refine awp_seq ?_
        refine awp_seq ?_
        refine awp_region ?_
        refine awpl_op rfl (opTo_q (d := 21) rfl rfl ev_move) ?_
        refine awpl_op rfl (opTo_q (d := 22) rfl rfl (ev_bytes2s rfl ty_s_uint8 ty_uint8 ty_string)) ?_
        refine awpl_op rfl (opTo_q (d := 23) rfl rfl (ev_seql (a := v14) (b := ([46] : Str)) rfl rfl)) ?_
        refine awpl_nil ?_
        refine kthen_normal ?_
        refine awp_cond rfl (fun c16 => ?_) (fun c16 => ?_)
        · replace hr := cond_t c16 hr
          refine awp_seq ?_
          refine awp_seq ?_
          refine awp_region ?_
          refine awpl_op rfl (opTo_q (d := 24) rfl rfl (ev_load rfl rfl ty_s_uint8 rfl rfl)) ?_
          refine awpl_op rfl (opTo_q (d := 25) rfl rfl (ev_hlen (F := cU) rfl rfl ty_s_uint8.u)) ?_
          refine awpl_op rfl (opTo_q (d := 26) rfl rfl (ev_gtr rfl rfl)) ?_
          refine awpl_nil ?_
          refine kthen_normal ?_
          refine awp_cond rfl (fun c17 => ?_) (fun c17 => ?_)
          · replace hr := cond_t c17 hr
            refine awp_seq ?_
            refine awp_region ?_
            obtain ⟨v18, h19, hr⟩ := bind_some hr
            refine awpl_op rfl (opTo_call (k := 27) (basic_Fault_run 1 ((-2)) v18 h19) rfl rfl) ?_
            refine awpl_op rfl (opTo_store rfl rfl rfl ty_s_uint8 rfl rfl) ?_
            refine awpl_op rfl (opTo_store rfl rfl rfl ty_int rfl rfl) ?_
            refine awpl_op rfl (opTo_store rfl rfl rfl ty_bool rfl rfl) ?_
            refine awpl_op rfl (opTo_store rfl rfl rfl ty_api_Fault rfl rfl) ?_
            refine awpl_nil ?_
            refine kthen_normal ?_
            refine awp_ret ?_
            refine kthen_ret ?_
            refine kthen_ret ?_
            refine kblock_ret ?_
            refine rndK (fr'' := [(0, .fn (.yield b10) [] []), (1, .ptr 1 0), (3, .i s4.1), (4, .i v11), (13, .bo (decide (v11 < 0))), (14, .fn (.yield b10) [] []), (15, .l cU a0), (16, .i s4.1), (17, .i s4.1), (18, .i v11), (19, .i ((w64 (s4.1 + v11)))), (20, .l cU v14), (21, .i s4.1), (22, .i v11), (23, .i ((w64 (s4.1 + v11)))), (24, .i ((w64 ((w64 (s4.1 + v11)) + 2))))]) (σ'' := [(1099999, .sus g0.w.heap.size ds10), (1099998, .lp b10 ((stop L10 .ret))), (1000000, .hold (.l cU a0) (T10.getD 0 undef)), (1000002, .hold (.ptr 2 0) (T10.getD 2 undef)), (1000003, .hold (.ptr 3 0) (T10.getD 3 undef)), (1000004, .hold (.ptr 4 0) (T10.getD 4 undef)), (1000005, .hold (.ptr 5 0) (T10.getD 5 undef)), (1000006, .hold (.ptr 6 0) (T10.getD 6 undef)), (1000007, .hold (.ptr 7 0) (T10.getD 7 undef)), (1000017, .hold (.fn (.func 57) [] [.ptr 1 0]) (T10.getD 17 undef)), (1, .cells [.l cU a0]), (7, .cells [.i ((w64 ((w64 (s4.1 + v11)) + 2)))]), (1006, .row 5 false 1 (List.map cU s4.2.2)), (6, .cells [.hs 1006 0]), (5, .cells [.i v18.Code, .i v18.Index]), (4, .cells [.bo false]), (3, .cells [.i 0]), (2, .cells [.pv (.sl (some true) [])])]) .ret stoLe_refl rfl (.cons rfl (.cons rfl (.cons rfl (.cons rfl (.cons rfl (.cons rfl (.cons rfl (.cons rfl (.cons rfl (.cons rfl (.cons rfl (.cons rfl (.cons rfl (.cons rfl (.cons rfl (.cons rfl .nil)))))))))))))))) rfl (stoLe_cons rfl (stoLe_cons rfl (stoLe_cons rfl (stoLe_cons rfl (stoLe_cons rfl (stoLe_cons rfl (stoLe_cons rfl (stoLe_cons rfl (stoLe_cons rfl (stoLe_cons rfl (stoLe_cons rfl (stoLe_cons rfl (stoLe_cons rfl (stoLe_cons rfl (stoLe_cons rfl (stoLe_cons rfl (stoLe_cons rfl (stoLe_cons rfl stoLe_nil)))))))))))))))))) ?_
            refine awpl_yes (d := 13) rfl rfl rfl c13 (opTo_q (d := 26) rfl rfl (ev_not rfl)) ?_
            refine awpl_op rfl (opTo_q (d := 27) rfl rfl (ev_pick_f rfl c13)) ?_
            refine awpl_nil ?_
            refine kthen_normal ?_
            refine awp_cond (t := true) rfl (fun _ => ?_) (fun h => nomatch h)
            refine awp_ret ?_
            refine kthen_ret ?_
            refine kblock_ret ?_
            cases hr
            exact ⟨by simp, rfl, frLe_nil, (stoLe_cons rfl (stoLe_cons rfl (stoLe_cons rfl (stoLe_cons rfl (stoLe_cons rfl (stoLe_cons rfl (stoLe_cons rfl (stoLe_cons rfl (stoLe_cons rfl (stoLe_cons rfl (stoLe_cons rfl (stoLe_cons rfl (stoLe_cons rfl (stoLe_cons rfl (stoLe_cons rfl (stoLe_cons rfl (stoLe_cons rfl (stoLe_weak rfl rfl stoLe_nil))))))))))))))))))⟩
          · replace hr := cond_f c17 hr
            refine awp_skip ?_
            refine kthen_normal ?_
            refine awp_seq ?_
            obtain ⟨v20, h21, hr⟩ := bind_some hr
            refine awp_explore [([false, false, false, false, false, false, false], [(2, .ptr 2 0), (3, .ptr 3 0), (4, .ptr 4 0), (5, .ptr 5 0), (6, .ptr 6 0), (9, .i ((w64 ((w64 (s4.1 + v11)) + 2))))], [(1699999, .sus g0.w.heap.size ds16), (1600000, .hold (.fn (.yield b10) [] []) (T16.getD 0 undef)), (1600001, .hold (.ptr 1 0) (T16.getD 1 undef)), (1600003, .hold (.i s4.1) (T16.getD 3 undef)), (1600004, .hold (.i v11) (T16.getD 4 undef)), (1600013, .hold (.bo (decide (v11 < 0))) (T16.getD 13 undef)), (1600014, .hold (.fn (.yield b10) [] []) (T16.getD 14 undef)), (1600015, .hold (.l cU a0) (T16.getD 15 undef)), (1600016, .hold (.i s4.1) (T16.getD 16 undef)), (1600017, .hold (.i s4.1) (T16.getD 17 undef)), (1600018, .hold (.i v11) (T16.getD 18 undef)), (1600019, .hold (.i ((w64 (s4.1 + v11)))) (T16.getD 19 undef)), (1600020, .hold (.l cU v14) (T16.getD 20 undef)), (1600021, .hold (.i s4.1) (T16.getD 21 undef)), (1600022, .hold (.i v11) (T16.getD 22 undef)), (1600023, .hold (.i ((w64 (s4.1 + v11)))) (T16.getD 23 undef)), (1600024, .hold (.i ((w64 ((w64 (s4.1 + v11)) + 2)))) (T16.getD 24 undef)), (1099999, .sus g0.w.heap.size ds10), (1099998, .lp b10 ((busy L10))), (1000000, .hold (.l cU a0) (T10.getD 0 undef)), (1000002, .hold (.ptr 2 0) (T10.getD 2 undef)), (1000003, .hold (.ptr 3 0) (T10.getD 3 undef)), (1000004, .hold (.ptr 4 0) (T10.getD 4 undef)), (1000005, .hold (.ptr 5 0) (T10.getD 5 undef)), (1000006, .hold (.ptr 6 0) (T10.getD 6 undef)), (1000007, .hold (.ptr 7 0) (T10.getD 7 undef)), (1000017, .hold (.fn (.func 57) [] [.ptr 1 0]) (T10.getD 17 undef)), (1, .cells [.l cU a0]), (7, .cells [.i ((w64 ((w64 (s4.1 + v11)) + 2)))]), (1006, .row 5 false 1 (List.map cU s4.2.2)), (6, .cells [.hs 1006 0]), (5, .cells [.i 0, .i 0]), (4, .cells [.bo false]), (3, .cells [.i 0]), (2, .cells [.l cU ([])])]), ([true, false, false, false, false, false, false], [(2, .ptr 2 0), (3, .ptr 3 0), (4, .ptr 4 0), (5, .ptr 5 0), (6, .ptr 6 0), (9, .i ((w64 ((w64 (s4.1 + v11)) + 2)))), (28, .hs 1006 0)], [(1699999, .sus g0.w.heap.size ds16), (1600000, .hold (.fn (.yield b10) [] []) (T16.getD 0 undef)), (1600001, .hold (.ptr 1 0) (T16.getD 1 undef)), (1600003, .hold (.i s4.1) (T16.getD 3 undef)), (1600004, .hold (.i v11) (T16.getD 4 undef)), (1600013, .hold (.bo (decide (v11 < 0))) (T16.getD 13 undef)), (1600014, .hold (.fn (.yield b10) [] []) (T16.getD 14 undef)), (1600015, .hold (.l cU a0) (T16.getD 15 undef)), (1600016, .hold (.i s4.1) (T16.getD 16 undef)), (1600017, .hold (.i s4.1) (T16.getD 17 undef)), (1600018, .hold (.i v11) (T16.getD 18 undef)), (1600019, .hold (.i ((w64 (s4.1 + v11)))) (T16.getD 19 undef)), (1600020, .hold (.l cU v14) (T16.getD 20 undef)), (1600021, .hold (.i s4.1) (T16.getD 21 undef)), (1600022, .hold (.i v11) (T16.getD 22 undef)), (1600023, .hold (.i ((w64 (s4.1 + v11)))) (T16.getD 23 undef)), (1600024, .hold (.i ((w64 ((w64 (s4.1 + v11)) + 2)))) (T16.getD 24 undef)), (1099999, .sus g0.w.heap.size ds10), (1099998, .lp b10 ((busy L10))), (1000000, .hold (.l cU a0) (T10.getD 0 undef)), (1000002, .hold (.ptr 2 0) (T10.getD 2 undef)), (1000003, .hold (.ptr 3 0) (T10.getD 3 undef)), (1000004, .hold (.ptr 4 0) (T10.getD 4 undef)), (1000005, .hold (.ptr 5 0) (T10.getD 5 undef)), (1000006, .hold (.ptr 6 0) (T10.getD 6 undef)), (1000007, .hold (.ptr 7 0) (T10.getD 7 undef)), (1000017, .hold (.fn (.func 57) [] [.ptr 1 0]) (T10.getD 17 undef)), (1, .cells [.l cU a0]), (7, .cells [.i ((w64 ((w64 (s4.1 + v11)) + 2)))]), (1006, .row 5 false 1 (List.map cU s4.2.2)), (6, .cells [.hs 1006 0]), (5, .cells [.i 0, .i 0]), (4, .cells [.bo false]), (3, .cells [.i 0]), (2, .cells [.l cU ([])])]), ([false, true, false, false, false, false, false], [(2, .ptr 2 0), (3, .ptr 3 0), (4, .ptr 4 0), (5, .ptr 5 0), (6, .ptr 6 0), (9, .i ((w64 ((w64 (s4.1 + v11)) + 2)))), (29, .i ((w64 ((w64 (s4.1 + v11)) + 2))))], [(1699999, .sus g0.w.heap.size ds16), (1600000, .hold (.fn (.yield b10) [] []) (T16.getD 0 undef)), (1600001, .hold (.ptr 1 0) (T16.getD 1 undef)), (1600003, .hold (.i s4.1) (T16.getD 3 undef)), (1600004, .hold (.i v11) (T16.getD 4 undef)), (1600013, .hold (.bo (decide (v11 < 0))) (T16.getD 13 undef)), (1600014, .hold (.fn (.yield b10) [] []) (T16.getD 14 undef)), (1600015, .hold (.l cU a0) (T16.getD 15 undef)), (1600016, .hold (.i s4.1) (T16.getD 16 undef)), (1600017, .hold (.i s4.1) (T16.getD 17 undef)), (1600018, .hold (.i v11) (T16.getD 18 undef)), (1600019, .hold (.i ((w64 (s4.1 + v11)))) (T16.getD 19 undef)), (1600020, .hold (.l cU v14) (T16.getD 20 undef)), (1600021, .hold (.i s4.1) (T16.getD 21 undef)), (1600022, .hold (.i v11) (T16.getD 22 undef)), (1600023, .hold (.i ((w64 (s4.1 + v11)))) (T16.getD 23 undef)), (1600024, .hold (.i ((w64 ((w64 (s4.1 + v11)) + 2)))) (T16.getD 24 undef)), (1099999, .sus g0.w.heap.size ds10), (1099998, .lp b10 ((busy L10))), (1000000, .hold (.l cU a0) (T10.getD 0 undef)), (1000002, .hold (.ptr 2 0) (T10.getD 2 undef)), (1000003, .hold (.ptr 3 0) (T10.getD 3 undef)), (1000004, .hold (.ptr 4 0) (T10.getD 4 undef)), (1000005, .hold (.ptr 5 0) (T10.getD 5 undef)), (1000006, .hold (.ptr 6 0) (T10.getD 6 undef)), (1000007, .hold (.ptr 7 0) (T10.getD 7 undef)), (1000017, .hold (.fn (.func 57) [] [.ptr 1 0]) (T10.getD 17 undef)), (1, .cells [.l cU a0]), (7, .cells [.i ((w64 ((w64 (s4.1 + v11)) + 2)))]), (1006, .row 5 false 1 (List.map cU s4.2.2)), (6, .cells [.hs 1006 0]), (5, .cells [.i 0, .i 0]), (4, .cells [.bo false]), (3, .cells [.i 0]), (2, .cells [.l cU ([])])]), ([false, false, true, false, false, false, false], [(2, .ptr 2 0), (3, .ptr 3 0), (4, .ptr 4 0), (5, .ptr 5 0), (6, .ptr 6 0), (9, .i ((w64 ((w64 (s4.1 + v11)) + 2)))), (30, .agg [.i v20.Code, .i v20.Index])], [(1699999, .sus g0.w.heap.size ds16), (1600000, .hold (.fn (.yield b10) [] []) (T16.getD 0 undef)), (1600001, .hold (.ptr 1 0) (T16.getD 1 undef)), (1600003, .hold (.i s4.1) (T16.getD 3 undef)), (1600004, .hold (.i v11) (T16.getD 4 undef)), (1600013, .hold (.bo (decide (v11 < 0))) (T16.getD 13 undef)), (1600014, .hold (.fn (.yield b10) [] []) (T16.getD 14 undef)), (1600015, .hold (.l cU a0) (T16.getD 15 undef)), (1600016, .hold (.i s4.1) (T16.getD 16 undef)), (1600017, .hold (.i s4.1) (T16.getD 17 undef)), (1600018, .hold (.i v11) (T16.getD 18 undef)), (1600019, .hold (.i ((w64 (s4.1 + v11)))) (T16.getD 19 undef)), (1600020, .hold (.l cU v14) (T16.getD 20 undef)), (1600021, .hold (.i s4.1) (T16.getD 21 undef)), (1600022, .hold (.i v11) (T16.getD 22 undef)), (1600023, .hold (.i ((w64 (s4.1 + v11)))) (T16.getD 23 undef)), (1600024, .hold (.i ((w64 ((w64 (s4.1 + v11)) + 2)))) (T16.getD 24 undef)), (1099999, .sus g0.w.heap.size ds10), (1099998, .lp b10 ((busy L10))), (1000000, .hold (.l cU a0) (T10.getD 0 undef)), (1000002, .hold (.ptr 2 0) (T10.getD 2 undef)), (1000003, .hold (.ptr 3 0) (T10.getD 3 undef)), (1000004, .hold (.ptr 4 0) (T10.getD 4 undef)), (1000005, .hold (.ptr 5 0) (T10.getD 5 undef)), (1000006, .hold (.ptr 6 0) (T10.getD 6 undef)), (1000007, .hold (.ptr 7 0) (T10.getD 7 undef)), (1000017, .hold (.fn (.func 57) [] [.ptr 1 0]) (T10.getD 17 undef)), (1, .cells [.l cU a0]), (7, .cells [.i ((w64 ((w64 (s4.1 + v11)) + 2)))]), (1006, .row 5 false 1 (List.map cU s4.2.2)), (6, .cells [.hs 1006 0]), (5, .cells [.i 0, .i 0]), (4, .cells [.bo false]), (3, .cells [.i 0]), (2, .cells [.l cU ([])])]), ([true, true, false, false, false, false, false], [(2, .ptr 2 0), (3, .ptr 3 0), (4, .ptr 4 0), (5, .ptr 5 0), (6, .ptr 6 0), (9, .i ((w64 ((w64 (s4.1 + v11)) + 2)))), (28, .hs 1006 0), (29, .i ((w64 ((w64 (s4.1 + v11)) + 2))))], [(1699999, .sus g0.w.heap.size ds16), (1600000, .hold (.fn (.yield b10) [] []) (T16.getD 0 undef)), (1600001, .hold (.ptr 1 0) (T16.getD 1 undef)), (1600003, .hold (.i s4.1) (T16.getD 3 undef)), (1600004, .hold (.i v11) (T16.getD 4 undef)), (1600013, .hold (.bo (decide (v11 < 0))) (T16.getD 13 undef)), (1600014, .hold (.fn (.yield b10) [] []) (T16.getD 14 undef)), (1600015, .hold (.l cU a0) (T16.getD 15 undef)), (1600016, .hold (.i s4.1) (T16.getD 16 undef)), (1600017, .hold (.i s4.1) (T16.getD 17 undef)), (1600018, .hold (.i v11) (T16.getD 18 undef)), (1600019, .hold (.i ((w64 (s4.1 + v11)))) (T16.getD 19 undef)), (1600020, .hold (.l cU v14) (T16.getD 20 undef)), (1600021, .hold (.i s4.1) (T16.getD 21 undef)), (1600022, .hold (.i v11) (T16.getD 22 undef)), (1600023, .hold (.i ((w64 (s4.1 + v11)))) (T16.getD 23 undef)), (1600024, .hold (.i ((w64 ((w64 (s4.1 + v11)) + 2)))) (T16.getD 24 undef)), (1099999, .sus g0.w.heap.size ds10), (1099998, .lp b10 ((busy L10))), (1000000, .hold (.l cU a0) (T10.getD 0 undef)), (1000002, .hold (.ptr 2 0) (T10.getD 2 undef)), (1000003, .hold (.ptr 3 0) (T10.getD 3 undef)), (1000004, .hold (.ptr 4 0) (T10.getD 4 undef)), (1000005, .hold (.ptr 5 0) (T10.getD 5 undef)), (1000006, .hold (.ptr 6 0) (T10.getD 6 undef)), (1000007, .hold (.ptr 7 0) (T10.getD 7 undef)), (1000017, .hold (.fn (.func 57) [] [.ptr 1 0]) (T10.getD 17 undef)), (1, .cells [.l cU a0]), (7, .cells [.i ((w64 ((w64 (s4.1 + v11)) + 2)))]), (1006, .row 5 false 1 (List.map cU s4.2.2)), (6, .cells [.hs 1006 0]), (5, .cells [.i 0, .i 0]), (4, .cells [.bo false]), (3, .cells [.i 0]), (2, .cells [.l cU ([])])]), ([true, false, true, false, false, false, false], [(2, .ptr 2 0), (3, .ptr 3 0), (4, .ptr 4 0), (5, .ptr 5 0), (6, .ptr 6 0), (9, .i ((w64 ((w64 (s4.1 + v11)) + 2)))), (28, .hs 1006 0), (30, .agg [.i v20.Code, .i v20.Index])], [(1699999, .sus g0.w.heap.size ds16), (1600000, .hold (.fn (.yield b10) [] []) (T16.getD 0 undef)), (1600001, .hold (.ptr 1 0) (T16.getD 1 undef)), (1600003, .hold (.i s4.1) (T16.getD 3 undef)), (1600004, .hold (.i v11) (T16.getD 4 undef)), (1600013, .hold (.bo (decide (v11 < 0))) (T16.getD 13 undef)), (1600014, .hold (.fn (.yield b10) [] []) (T16.getD 14 undef)), (1600015, .hold (.l cU a0) (T16.getD 15 undef)), (1600016, .hold (.i s4.1) (T16.getD 16 undef)), (1600017, .hold (.i s4.1) (T16.getD 17 undef)), (1600018, .hold (.i v11) (T16.getD 18 undef)), (1600019, .hold (.i ((w64 (s4.1 + v11)))) (T16.getD 19 undef)), (1600020, .hold (.l cU v14) (T16.getD 20 undef)), (1600021, .hold (.i s4.1) (T16.getD 21 undef)), (1600022, .hold (.i v11) (T16.getD 22 undef)), (1600023, .hold (.i ((w64 (s4.1 + v11)))) (T16.getD 23 undef)), (1600024, .hold (.i ((w64 ((w64 (s4.1 + v11)) + 2)))) (T16.getD 24 undef)), (1099999, .sus g0.w.heap.size ds10), (1099998, .lp b10 ((busy L10))), (1000000, .hold (.l cU a0) (T10.getD 0 undef)), (1000002, .hold (.ptr 2 0) (T10.getD 2 undef)), (1000003, .hold (.ptr 3 0) (T10.getD 3 undef)), (1000004, .hold (.ptr 4 0) (T10.getD 4 undef)), (1000005, .hold (.ptr 5 0) (T10.getD 5 undef)), (1000006, .hold (.ptr 6 0) (T10.getD 6 undef)), (1000007, .hold (.ptr 7 0) (T10.getD 7 undef)), (1000017, .hold (.fn (.func 57) [] [.ptr 1 0]) (T10.getD 17 undef)), (1, .cells [.l cU a0]), (7, .cells [.i ((w64 ((w64 (s4.1 + v11)) + 2)))]), (1006, .row 5 false 1 (List.map cU s4.2.2)), (6, .cells [.hs 1006 0]), (5, .cells [.i 0, .i 0]), (4, .cells [.bo false]), (3, .cells [.i 0]), (2, .cells [.l cU ([])])]), ([false, true, true, false, false, false, false], [(2, .ptr 2 0), (3, .ptr 3 0), (4, .ptr 4 0), (5, .ptr 5 0), (6, .ptr 6 0), (9, .i ((w64 ((w64 (s4.1 + v11)) + 2)))), (29, .i ((w64 ((w64 (s4.1 + v11)) + 2)))), (30, .agg [.i v20.Code, .i v20.Index])], [(1699999, .sus g0.w.heap.size ds16), (1600000, .hold (.fn (.yield b10) [] []) (T16.getD 0 undef)), (1600001, .hold (.ptr 1 0) (T16.getD 1 undef)), (1600003, .hold (.i s4.1) (T16.getD 3 undef)), (1600004, .hold (.i v11) (T16.getD 4 undef)), (1600013, .hold (.bo (decide (v11 < 0))) (T16.getD 13 undef)), (1600014, .hold (.fn (.yield b10) [] []) (T16.getD 14 undef)), (1600015, .hold (.l cU a0) (T16.getD 15 undef)), (1600016, .hold (.i s4.1) (T16.getD 16 undef)), (1600017, .hold (.i s4.1) (T16.getD 17 undef)), (1600018, .hold (.i v11) (T16.getD 18 undef)), (1600019, .hold (.i ((w64 (s4.1 + v11)))) (T16.getD 19 undef)), (1600020, .hold (.l cU v14) (T16.getD 20 undef)), (1600021, .hold (.i s4.1) (T16.getD 21 undef)), (1600022, .hold (.i v11) (T16.getD 22 undef)), (1600023, .hold (.i ((w64 (s4.1 + v11)))) (T16.getD 23 undef)), (1600024, .hold (.i ((w64 ((w64 (s4.1 + v11)) + 2)))) (T16.getD 24 undef)), (1099999, .sus g0.w.heap.size ds10), (1099998, .lp b10 ((busy L10))), (1000000, .hold (.l cU a0) (T10.getD 0 undef)), (1000002, .hold (.ptr 2 0) (T10.getD 2 undef)), (1000003, .hold (.ptr 3 0) (T10.getD 3 undef)), (1000004, .hold (.ptr 4 0) (T10.getD 4 undef)), (1000005, .hold (.ptr 5 0) (T10.getD 5 undef)), (1000006, .hold (.ptr 6 0) (T10.getD 6 undef)), (1000007, .hold (.ptr 7 0) (T10.getD 7 undef)), (1000017, .hold (.fn (.func 57) [] [.ptr 1 0]) (T10.getD 17 undef)), (1, .cells [.l cU a0]), (7, .cells [.i ((w64 ((w64 (s4.1 + v11)) + 2)))]), (1006, .row 5 false 1 (List.map cU s4.2.2)), (6, .cells [.hs 1006 0]), (5, .cells [.i 0, .i 0]), (4, .cells [.bo false]), (3, .cells [.i 0]), (2, .cells [.l cU ([])])]), ([true, true, true, false, false, false, false], [(2, .ptr 2 0), (3, .ptr 3 0), (4, .ptr 4 0), (5, .ptr 5 0), (6, .ptr 6 0), (9, .i ((w64 ((w64 (s4.1 + v11)) + 2)))), (28, .hs 1006 0), (29, .i ((w64 ((w64 (s4.1 + v11)) + 2)))), (30, .agg [.i v20.Code, .i v20.Index])], [(1699999, .sus g0.w.heap.size ds16), (1600000, .hold (.fn (.yield b10) [] []) (T16.getD 0 undef)), (1600001, .hold (.ptr 1 0) (T16.getD 1 undef)), (1600003, .hold (.i s4.1) (T16.getD 3 undef)), (1600004, .hold (.i v11) (T16.getD 4 undef)), (1600013, .hold (.bo (decide (v11 < 0))) (T16.getD 13 undef)), (1600014, .hold (.fn (.yield b10) [] []) (T16.getD 14 undef)), (1600015, .hold (.l cU a0) (T16.getD 15 undef)), (1600016, .hold (.i s4.1) (T16.getD 16 undef)), (1600017, .hold (.i s4.1) (T16.getD 17 undef)), (1600018, .hold (.i v11) (T16.getD 18 undef)), (1600019, .hold (.i ((w64 (s4.1 + v11)))) (T16.getD 19 undef)), (1600020, .hold (.l cU v14) (T16.getD 20 undef)), (1600021, .hold (.i s4.1) (T16.getD 21 undef)), (1600022, .hold (.i v11) (T16.getD 22 undef)), (1600023, .hold (.i ((w64 (s4.1 + v11)))) (T16.getD 23 undef)), (1600024, .hold (.i ((w64 ((w64 (s4.1 + v11)) + 2)))) (T16.getD 24 undef)), (1099999, .sus g0.w.heap.size ds10), (1099998, .lp b10 ((busy L10))), (1000000, .hold (.l cU a0) (T10.getD 0 undef)), (1000002, .hold (.ptr 2 0) (T10.getD 2 undef)), (1000003, .hold (.ptr 3 0) (T10.getD 3 undef)), (1000004, .hold (.ptr 4 0) (T10.getD 4 undef)), (1000005, .hold (.ptr 5 0) (T10.getD 5 undef)), (1000006, .hold (.ptr 6 0) (T10.getD 6 undef)), (1000007, .hold (.ptr 7 0) (T10.getD 7 undef)), (1000017, .hold (.fn (.func 57) [] [.ptr 1 0]) (T10.getD 17 undef)), (1, .cells [.l cU a0]), (7, .cells [.i ((w64 ((w64 (s4.1 + v11)) + 2)))]), (1006, .row 5 false 1 (List.map cU s4.2.2)), (6, .cells [.hs 1006 0]), (5, .cells [.i 0, .i 0]), (4, .cells [.bo false]), (3, .cells [.i 0]), (2, .cells [.l cU ([])])]), ([true, false, true, true, false, false, false], [(2, .ptr 2 0), (3, .ptr 3 0), (4, .ptr 4 0), (5, .ptr 5 0), (6, .ptr 6 0), (9, .i ((w64 ((w64 (s4.1 + v11)) + 2)))), (28, .hs 1006 0), (30, .agg [.i v20.Code, .i v20.Index])], [(1699999, .sus g0.w.heap.size ds16), (1600000, .hold (.fn (.yield b10) [] []) (T16.getD 0 undef)), (1600001, .hold (.ptr 1 0) (T16.getD 1 undef)), (1600003, .hold (.i s4.1) (T16.getD 3 undef)), (1600004, .hold (.i v11) (T16.getD 4 undef)), (1600013, .hold (.bo (decide (v11 < 0))) (T16.getD 13 undef)), (1600014, .hold (.fn (.yield b10) [] []) (T16.getD 14 undef)), (1600015, .hold (.l cU a0) (T16.getD 15 undef)), (1600016, .hold (.i s4.1) (T16.getD 16 undef)), (1600017, .hold (.i s4.1) (T16.getD 17 undef)), (1600018, .hold (.i v11) (T16.getD 18 undef)), (1600019, .hold (.i ((w64 (s4.1 + v11)))) (T16.getD 19 undef)), (1600020, .hold (.l cU v14) (T16.getD 20 undef)), (1600021, .hold (.i s4.1) (T16.getD 21 undef)), (1600022, .hold (.i v11) (T16.getD 22 undef)), (1600023, .hold (.i ((w64 (s4.1 + v11)))) (T16.getD 23 undef)), (1600024, .hold (.i ((w64 ((w64 (s4.1 + v11)) + 2)))) (T16.getD 24 undef)), (1099999, .sus g0.w.heap.size ds10), (1099998, .lp b10 ((busy L10))), (1000000, .hold (.l cU a0) (T10.getD 0 undef)), (1000002, .hold (.ptr 2 0) (T10.getD 2 undef)), (1000003, .hold (.ptr 3 0) (T10.getD 3 undef)), (1000004, .hold (.ptr 4 0) (T10.getD 4 undef)), (1000005, .hold (.ptr 5 0) (T10.getD 5 undef)), (1000006, .hold (.ptr 6 0) (T10.getD 6 undef)), (1000007, .hold (.ptr 7 0) (T10.getD 7 undef)), (1000017, .hold (.fn (.func 57) [] [.ptr 1 0]) (T10.getD 17 undef)), (1, .cells [.l cU a0]), (7, .cells [.i ((w64 ((w64 (s4.1 + v11)) + 2)))]), (1006, .row 5 false 1 (List.map cU s4.2.2)), (6, .cells [.hs 1006 0]), (5, .cells [.i 0, .i 0]), (4, .cells [.bo false]), (3, .cells [.i 0]), (2, .cells [.hs 1006 0])]), ([true, true, true, true, false, false, false], [(2, .ptr 2 0), (3, .ptr 3 0), (4, .ptr 4 0), (5, .ptr 5 0), (6, .ptr 6 0), (9, .i ((w64 ((w64 (s4.1 + v11)) + 2)))), (28, .hs 1006 0), (29, .i ((w64 ((w64 (s4.1 + v11)) + 2)))), (30, .agg [.i v20.Code, .i v20.Index])], [(1699999, .sus g0.w.heap.size ds16), (1600000, .hold (.fn (.yield b10) [] []) (T16.getD 0 undef)), (1600001, .hold (.ptr 1 0) (T16.getD 1 undef)), (1600003, .hold (.i s4.1) (T16.getD 3 undef)), (1600004, .hold (.i v11) (T16.getD 4 undef)), (1600013, .hold (.bo (decide (v11 < 0))) (T16.getD 13 undef)), (1600014, .hold (.fn (.yield b10) [] []) (T16.getD 14 undef)), (1600015, .hold (.l cU a0) (T16.getD 15 undef)), (1600016, .hold (.i s4.1) (T16.getD 16 undef)), (1600017, .hold (.i s4.1) (T16.getD 17 undef)), (1600018, .hold (.i v11) (T16.getD 18 undef)), (1600019, .hold (.i ((w64 (s4.1 + v11)))) (T16.getD 19 undef)), (1600020, .hold (.l cU v14) (T16.getD 20 undef)), (1600021, .hold (.i s4.1) (T16.getD 21 undef)), (1600022, .hold (.i v11) (T16.getD 22 undef)), (1600023, .hold (.i ((w64 (s4.1 + v11)))) (T16.getD 23 undef)), (1600024, .hold (.i ((w64 ((w64 (s4.1 + v11)) + 2)))) (T16.getD 24 undef)), (1099999, .sus g0.w.heap.size ds10), (1099998, .lp b10 ((busy L10))), (1000000, .hold (.l cU a0) (T10.getD 0 undef)), (1000002, .hold (.ptr 2 0) (T10.getD 2 undef)), (1000003, .hold (.ptr 3 0) (T10.getD 3 undef)), (1000004, .hold (.ptr 4 0) (T10.getD 4 undef)), (1000005, .hold (.ptr 5 0) (T10.getD 5 undef)), (1000006, .hold (.ptr 6 0) (T10.getD 6 undef)), (1000007, .hold (.ptr 7 0) (T10.getD 7 undef)), (1000017, .hold (.fn (.func 57) [] [.ptr 1 0]) (T10.getD 17 undef)), (1, .cells [.l cU a0]), (7, .cells [.i ((w64 ((w64 (s4.1 + v11)) + 2)))]), (1006, .row 5 false 1 (List.map cU s4.2.2)), (6, .cells [.hs 1006 0]), (5, .cells [.i 0, .i 0]), (4, .cells [.bo false]), (3, .cells [.i 0]), (2, .cells [.hs 1006 0])]), ([true, true, true, true, true, false, false], [(2, .ptr 2 0), (3, .ptr 3 0), (4, .ptr 4 0), (5, .ptr 5 0), (6, .ptr 6 0), (9, .i ((w64 ((w64 (s4.1 + v11)) + 2)))), (28, .hs 1006 0), (29, .i ((w64 ((w64 (s4.1 + v11)) + 2)))), (30, .agg [.i v20.Code, .i v20.Index])], [(1699999, .sus g0.w.heap.size ds16), (1600000, .hold (.fn (.yield b10) [] []) (T16.getD 0 undef)), (1600001, .hold (.ptr 1 0) (T16.getD 1 undef)), (1600003, .hold (.i s4.1) (T16.getD 3 undef)), (1600004, .hold (.i v11) (T16.getD 4 undef)), (1600013, .hold (.bo (decide (v11 < 0))) (T16.getD 13 undef)), (1600014, .hold (.fn (.yield b10) [] []) (T16.getD 14 undef)), (1600015, .hold (.l cU a0) (T16.getD 15 undef)), (1600016, .hold (.i s4.1) (T16.getD 16 undef)), (1600017, .hold (.i s4.1) (T16.getD 17 undef)), (1600018, .hold (.i v11) (T16.getD 18 undef)), (1600019, .hold (.i ((w64 (s4.1 + v11)))) (T16.getD 19 undef)), (1600020, .hold (.l cU v14) (T16.getD 20 undef)), (1600021, .hold (.i s4.1) (T16.getD 21 undef)), (1600022, .hold (.i v11) (T16.getD 22 undef)), (1600023, .hold (.i ((w64 (s4.1 + v11)))) (T16.getD 23 undef)), (1600024, .hold (.i ((w64 ((w64 (s4.1 + v11)) + 2)))) (T16.getD 24 undef)), (1099999, .sus g0.w.heap.size ds10), (1099998, .lp b10 ((busy L10))), (1000000, .hold (.l cU a0) (T10.getD 0 undef)), (1000002, .hold (.ptr 2 0) (T10.getD 2 undef)), (1000003, .hold (.ptr 3 0) (T10.getD 3 undef)), (1000004, .hold (.ptr 4 0) (T10.getD 4 undef)), (1000005, .hold (.ptr 5 0) (T10.getD 5 undef)), (1000006, .hold (.ptr 6 0) (T10.getD 6 undef)), (1000007, .hold (.ptr 7 0) (T10.getD 7 undef)), (1000017, .hold (.fn (.func 57) [] [.ptr 1 0]) (T10.getD 17 undef)), (1, .cells [.l cU a0]), (7, .cells [.i ((w64 ((w64 (s4.1 + v11)) + 2)))]), (1006, .row 5 false 1 (List.map cU s4.2.2)), (6, .cells [.hs 1006 0]), (5, .cells [.i 0, .i 0]), (4, .cells [.bo false]), (3, .cells [.i ((w64 ((w64 (s4.1 + v11)) + 2)))]), (2, .cells [.hs 1006 0])]), ([true, true, true, true, true, true, false], [(2, .ptr 2 0), (3, .ptr 3 0), (4, .ptr 4 0), (5, .ptr 5 0), (6, .ptr 6 0), (9, .i ((w64 ((w64 (s4.1 + v11)) + 2)))), (28, .hs 1006 0), (29, .i ((w64 ((w64 (s4.1 + v11)) + 2)))), (30, .agg [.i v20.Code, .i v20.Index])], [(1699999, .sus g0.w.heap.size ds16), (1600000, .hold (.fn (.yield b10) [] []) (T16.getD 0 undef)), (1600001, .hold (.ptr 1 0) (T16.getD 1 undef)), (1600003, .hold (.i s4.1) (T16.getD 3 undef)), (1600004, .hold (.i v11) (T16.getD 4 undef)), (1600013, .hold (.bo (decide (v11 < 0))) (T16.getD 13 undef)), (1600014, .hold (.fn (.yield b10) [] []) (T16.getD 14 undef)), (1600015, .hold (.l cU a0) (T16.getD 15 undef)), (1600016, .hold (.i s4.1) (T16.getD 16 undef)), (1600017, .hold (.i s4.1) (T16.getD 17 undef)), (1600018, .hold (.i v11) (T16.getD 18 undef)), (1600019, .hold (.i ((w64 (s4.1 + v11)))) (T16.getD 19 undef)), (1600020, .hold (.l cU v14) (T16.getD 20 undef)), (1600021, .hold (.i s4.1) (T16.getD 21 undef)), (1600022, .hold (.i v11) (T16.getD 22 undef)), (1600023, .hold (.i ((w64 (s4.1 + v11)))) (T16.getD 23 undef)), (1600024, .hold (.i ((w64 ((w64 (s4.1 + v11)) + 2)))) (T16.getD 24 undef)), (1099999, .sus g0.w.heap.size ds10), (1099998, .lp b10 ((busy L10))), (1000000, .hold (.l cU a0) (T10.getD 0 undef)), (1000002, .hold (.ptr 2 0) (T10.getD 2 undef)), (1000003, .hold (.ptr 3 0) (T10.getD 3 undef)), (1000004, .hold (.ptr 4 0) (T10.getD 4 undef)), (1000005, .hold (.ptr 5 0) (T10.getD 5 undef)), (1000006, .hold (.ptr 6 0) (T10.getD 6 undef)), (1000007, .hold (.ptr 7 0) (T10.getD 7 undef)), (1000017, .hold (.fn (.func 57) [] [.ptr 1 0]) (T10.getD 17 undef)), (1, .cells [.l cU a0]), (7, .cells [.i ((w64 ((w64 (s4.1 + v11)) + 2)))]), (1006, .row 5 false 1 (List.map cU s4.2.2)), (6, .cells [.hs 1006 0]), (5, .cells [.i 0, .i 0]), (4, .cells [.bo true]), (3, .cells [.i ((w64 ((w64 (s4.1 + v11)) + 2)))]), (2, .cells [.hs 1006 0])]), ([true, true, true, true, true, true, true], [(2, .ptr 2 0), (3, .ptr 3 0), (4, .ptr 4 0), (5, .ptr 5 0), (6, .ptr 6 0), (9, .i ((w64 ((w64 (s4.1 + v11)) + 2)))), (28, .hs 1006 0), (29, .i ((w64 ((w64 (s4.1 + v11)) + 2)))), (30, .agg [.i v20.Code, .i v20.Index])], [(1699999, .sus g0.w.heap.size ds16), (1600000, .hold (.fn (.yield b10) [] []) (T16.getD 0 undef)), (1600001, .hold (.ptr 1 0) (T16.getD 1 undef)), (1600003, .hold (.i s4.1) (T16.getD 3 undef)), (1600004, .hold (.i v11) (T16.getD 4 undef)), (1600013, .hold (.bo (decide (v11 < 0))) (T16.getD 13 undef)), (1600014, .hold (.fn (.yield b10) [] []) (T16.getD 14 undef)), (1600015, .hold (.l cU a0) (T16.getD 15 undef)), (1600016, .hold (.i s4.1) (T16.getD 16 undef)), (1600017, .hold (.i s4.1) (T16.getD 17 undef)), (1600018, .hold (.i v11) (T16.getD 18 undef)), (1600019, .hold (.i ((w64 (s4.1 + v11)))) (T16.getD 19 undef)), (1600020, .hold (.l cU v14) (T16.getD 20 undef)), (1600021, .hold (.i s4.1) (T16.getD 21 undef)), (1600022, .hold (.i v11) (T16.getD 22 undef)), (1600023, .hold (.i ((w64 (s4.1 + v11)))) (T16.getD 23 undef)), (1600024, .hold (.i ((w64 ((w64 (s4.1 + v11)) + 2)))) (T16.getD 24 undef)), (1099999, .sus g0.w.heap.size ds10), (1099998, .lp b10 ((busy L10))), (1000000, .hold (.l cU a0) (T10.getD 0 undef)), (1000002, .hold (.ptr 2 0) (T10.getD 2 undef)), (1000003, .hold (.ptr 3 0) (T10.getD 3 undef)), (1000004, .hold (.ptr 4 0) (T10.getD 4 undef)), (1000005, .hold (.ptr 5 0) (T10.getD 5 undef)), (1000006, .hold (.ptr 6 0) (T10.getD 6 undef)), (1000007, .hold (.ptr 7 0) (T10.getD 7 undef)), (1000017, .hold (.fn (.func 57) [] [.ptr 1 0]) (T10.getD 17 undef)), (1, .cells [.l cU a0]), (7, .cells [.i ((w64 ((w64 (s4.1 + v11)) + 2)))]), (1006, .row 5 false 1 (List.map cU s4.2.2)), (6, .cells [.hs 1006 0]), (5, .cells [.i v20.Code, .i v20.Index]), (4, .cells [.bo true]), (3, .cells [.i ((w64 ((w64 (s4.1 + v11)) + 2)))]), (2, .cells [.hs 1006 0])])] mixed (by kernel_rfl) rfl rfl (frLe_cons rfl (frLe_cons rfl (frLe_cons rfl (frLe_cons rfl (frLe_cons rfl (frLe_cons rfl frLe_nil)))))) (stoLe_cons rfl (stoLe_cons rfl (stoLe_cons rfl (stoLe_cons rfl (stoLe_cons rfl (stoLe_cons rfl (stoLe_cons rfl (stoLe_cons rfl (stoLe_cons rfl (stoLe_cons rfl (stoLe_cons rfl (stoLe_cons rfl (stoLe_cons rfl (stoLe_cons rfl (stoLe_cons rfl (stoLe_cons rfl (stoLe_cons rfl (stoLe_cons rfl (stoLe_cons rfl (stoLe_cons rfl (stoLe_cons rfl (stoLe_cons rfl (stoLe_cons rfl (stoLe_cons rfl (stoLe_cons rfl (stoLe_cons rfl (stoLe_cons rfl (stoLe_cons rfl (stoLe_cons rfl (stoLe_cons rfl (stoLe_cons rfl (stoLe_cons rfl (stoLe_cons rfl (stoLe_cons rfl (stoLe_cons rfl stoLe_nil))))))))))))))))))))))))))))))))))) (.cons (.step [0, 1, 2] (by kernel_rfl) rfl (.cons (.yes 1 rfl (wanted_plain rfl) (opTo_q (d := 28) rfl rfl (ev_load rfl rfl ty_s_uint8 rfl rfl)) rfl (frLe_cons rfl (frLe_cons rfl (frLe_cons rfl (frLe_cons rfl (frLe_cons rfl (frLe_cons rfl (frLe_cons rfl frLe_nil))))))) (stoLe_cons rfl (stoLe_cons rfl (stoLe_cons rfl (stoLe_cons rfl (stoLe_cons rfl (stoLe_cons rfl (stoLe_cons rfl (stoLe_cons rfl (stoLe_cons rfl (stoLe_cons rfl (stoLe_cons rfl (stoLe_cons rfl (stoLe_cons rfl (stoLe_cons rfl (stoLe_cons rfl (stoLe_cons rfl (stoLe_cons rfl (stoLe_cons rfl (stoLe_cons rfl (stoLe_cons rfl (stoLe_cons rfl (stoLe_cons rfl (stoLe_cons rfl (stoLe_cons rfl (stoLe_cons rfl (stoLe_cons rfl (stoLe_cons rfl (stoLe_cons rfl (stoLe_cons rfl (stoLe_cons rfl (stoLe_cons rfl (stoLe_cons rfl (stoLe_cons rfl (stoLe_cons rfl (stoLe_cons rfl stoLe_nil)))))))))))))))))))))))))))))))))))) (.cons (.yes 2 rfl (wanted_plain rfl) (opTo_q (d := 29) rfl rfl ev_move) rfl (frLe_cons rfl (frLe_cons rfl (frLe_cons rfl (frLe_cons rfl (frLe_cons rfl (frLe_cons rfl (frLe_cons rfl frLe_nil))))))) (stoLe_cons rfl (stoLe_cons rfl (stoLe_cons rfl (stoLe_cons rfl (stoLe_cons rfl (stoLe_cons rfl (stoLe_cons rfl (stoLe_cons rfl (stoLe_cons rfl (stoLe_cons rfl (stoLe_cons rfl (stoLe_cons rfl (stoLe_cons rfl (stoLe_cons rfl (stoLe_cons rfl (stoLe_cons rfl (stoLe_cons rfl (stoLe_cons rfl (stoLe_cons rfl (stoLe_cons rfl (stoLe_cons rfl (stoLe_cons rfl (stoLe_cons rfl (stoLe_cons rfl (stoLe_cons rfl (stoLe_cons rfl (stoLe_cons rfl (stoLe_cons rfl (stoLe_cons rfl (stoLe_cons rfl (stoLe_cons rfl (stoLe_cons rfl (stoLe_cons rfl (stoLe_cons rfl (stoLe_cons rfl stoLe_nil)))))))))))))))))))))))))))))))))))) (.cons (.yes 3 rfl (wanted_plain rfl) (opTo_call (k := 30) (basic_None_run  v20 h21) rfl rfl) rfl (frLe_cons rfl (frLe_cons rfl (frLe_cons rfl (frLe_cons rfl (frLe_cons rfl (frLe_cons rfl (frLe_cons rfl frLe_nil))))))) (stoLe_cons rfl (stoLe_cons rfl (stoLe_cons rfl (stoLe_cons rfl (stoLe_cons rfl (stoLe_cons rfl (stoLe_cons rfl (stoLe_cons rfl (stoLe_cons rfl (stoLe_cons rfl (stoLe_cons rfl (stoLe_cons rfl (stoLe_cons rfl (stoLe_cons rfl (stoLe_cons rfl (stoLe_cons rfl (stoLe_cons rfl (stoLe_cons rfl (stoLe_cons rfl (stoLe_cons rfl (stoLe_cons rfl (stoLe_cons rfl (stoLe_cons rfl (stoLe_cons rfl (stoLe_cons rfl (stoLe_cons rfl (stoLe_cons rfl (stoLe_cons rfl (stoLe_cons rfl (stoLe_cons rfl (stoLe_cons rfl (stoLe_cons rfl (stoLe_cons rfl (stoLe_cons rfl (stoLe_cons rfl stoLe_nil)))))))))))))))))))))))))))))))))))) .nil)))) (.cons (.step [1, 2] (by kernel_rfl) rfl (.cons (.yes 4 rfl (wanted_plain rfl) (opTo_q (d := 29) rfl rfl ev_move) rfl (frLe_cons rfl (frLe_cons rfl (frLe_cons rfl (frLe_cons rfl (frLe_cons rfl (frLe_cons rfl (frLe_cons rfl (frLe_cons rfl frLe_nil)))))))) (stoLe_cons rfl (stoLe_cons rfl (stoLe_cons rfl (stoLe_cons rfl (stoLe_cons rfl (stoLe_cons rfl (stoLe_cons rfl (stoLe_cons rfl (stoLe_cons rfl (stoLe_cons rfl (stoLe_cons rfl (stoLe_cons rfl (stoLe_cons rfl (stoLe_cons rfl (stoLe_cons rfl (stoLe_cons rfl (stoLe_cons rfl (stoLe_cons rfl (stoLe_cons rfl (stoLe_cons rfl (stoLe_cons rfl (stoLe_cons rfl (stoLe_cons rfl (stoLe_cons rfl (stoLe_cons rfl (stoLe_cons rfl (stoLe_cons rfl (stoLe_cons rfl (stoLe_cons rfl (stoLe_cons rfl (stoLe_cons rfl (stoLe_cons rfl (stoLe_cons rfl (stoLe_cons rfl (stoLe_cons rfl stoLe_nil)))))))))))))))))))))))))))))))))))) (.cons (.yes 5 rfl (wanted_plain rfl) (opTo_call (k := 30) (basic_None_run  v20 h21) rfl rfl) rfl (frLe_cons rfl (frLe_cons rfl (frLe_cons rfl (frLe_cons rfl (frLe_cons rfl (frLe_cons rfl (frLe_cons rfl (frLe_cons rfl frLe_nil)))))))) (stoLe_cons rfl (stoLe_cons rfl (stoLe_cons rfl (stoLe_cons rfl (stoLe_cons rfl (stoLe_cons rfl (stoLe_cons rfl (stoLe_cons rfl (stoLe_cons rfl (stoLe_cons rfl (stoLe_cons rfl (stoLe_cons rfl (stoLe_cons rfl (stoLe_cons rfl (stoLe_cons rfl (stoLe_cons rfl (stoLe_cons rfl (stoLe_cons rfl (stoLe_cons rfl (stoLe_cons rfl (stoLe_cons rfl (stoLe_cons rfl (stoLe_cons rfl (stoLe_cons rfl (stoLe_cons rfl (stoLe_cons rfl (stoLe_cons rfl (stoLe_cons rfl (stoLe_cons rfl (stoLe_cons rfl (stoLe_cons rfl (stoLe_cons rfl (stoLe_cons rfl (stoLe_cons rfl (stoLe_cons rfl stoLe_nil)))))))))))))))))))))))))))))))))))) .nil))) (.cons (.step [0, 2] (by kernel_rfl) rfl (.cons (.yes 4 rfl (wanted_plain rfl) (opTo_q (d := 28) rfl rfl (ev_load rfl rfl ty_s_uint8 rfl rfl)) rfl (frLe_cons rfl (frLe_cons rfl (frLe_cons rfl (frLe_cons rfl (frLe_cons rfl (frLe_cons rfl (frLe_cons rfl (frLe_cons rfl frLe_nil)))))))) (stoLe_cons rfl (stoLe_cons rfl (stoLe_cons rfl (stoLe_cons rfl (stoLe_cons rfl (stoLe_cons rfl (stoLe_cons rfl (stoLe_cons rfl (stoLe_cons rfl (stoLe_cons rfl (stoLe_cons rfl (stoLe_cons rfl (stoLe_cons rfl (stoLe_cons rfl (stoLe_cons rfl (stoLe_cons rfl (stoLe_cons rfl (stoLe_cons rfl (stoLe_cons rfl (stoLe_cons rfl (stoLe_cons rfl (stoLe_cons rfl (stoLe_cons rfl (stoLe_cons rfl (stoLe_cons rfl (stoLe_cons rfl (stoLe_cons rfl (stoLe_cons rfl (stoLe_cons rfl (stoLe_cons rfl (stoLe_cons rfl (stoLe_cons rfl (stoLe_cons rfl (stoLe_cons rfl (stoLe_cons rfl stoLe_nil)))))))))))))))))))))))))))))))))))) (.cons (.yes 6 rfl (wanted_plain rfl) (opTo_call (k := 30) (basic_None_run  v20 h21) rfl rfl) rfl (frLe_cons rfl (frLe_cons rfl (frLe_cons rfl (frLe_cons rfl (frLe_cons rfl (frLe_cons rfl (frLe_cons rfl (frLe_cons rfl frLe_nil)))))))) (stoLe_cons rfl (stoLe_cons rfl (stoLe_cons rfl (stoLe_cons rfl (stoLe_cons rfl (stoLe_cons rfl (stoLe_cons rfl (stoLe_cons rfl (stoLe_cons rfl (stoLe_cons rfl (stoLe_cons rfl (stoLe_cons rfl (stoLe_cons rfl (stoLe_cons rfl (stoLe_cons rfl (stoLe_cons rfl (stoLe_cons rfl (stoLe_cons rfl (stoLe_cons rfl (stoLe_cons rfl (stoLe_cons rfl (stoLe_cons rfl (stoLe_cons rfl (stoLe_cons rfl (stoLe_cons rfl (stoLe_cons rfl (stoLe_cons rfl (stoLe_cons rfl (stoLe_cons rfl (stoLe_cons rfl (stoLe_cons rfl (stoLe_cons rfl (stoLe_cons rfl (stoLe_cons rfl (stoLe_cons rfl stoLe_nil)))))))))))))))))))))))))))))))))))) .nil))) (.cons (.step [0, 1] (by kernel_rfl) rfl (.cons (.yes 5 rfl (wanted_plain rfl) (opTo_q (d := 28) rfl rfl (ev_load rfl rfl ty_s_uint8 rfl rfl)) rfl (frLe_cons rfl (frLe_cons rfl (frLe_cons rfl (frLe_cons rfl (frLe_cons rfl (frLe_cons rfl (frLe_cons rfl (frLe_cons rfl frLe_nil)))))))) (stoLe_cons rfl (stoLe_cons rfl (stoLe_cons rfl (stoLe_cons rfl (stoLe_cons rfl (stoLe_cons rfl (stoLe_cons rfl (stoLe_cons rfl (stoLe_cons rfl (stoLe_cons rfl (stoLe_cons rfl (stoLe_cons rfl (stoLe_cons rfl (stoLe_cons rfl (stoLe_cons rfl (stoLe_cons rfl (stoLe_cons rfl (stoLe_cons rfl (stoLe_cons rfl (stoLe_cons rfl (stoLe_cons rfl (stoLe_cons rfl (stoLe_cons rfl (stoLe_cons rfl (stoLe_cons rfl (stoLe_cons rfl (stoLe_cons rfl (stoLe_cons rfl (stoLe_cons rfl (stoLe_cons rfl (stoLe_cons rfl (stoLe_cons rfl (stoLe_cons rfl (stoLe_cons rfl (stoLe_cons rfl stoLe_nil)))))))))))))))))))))))))))))))))))) (.cons (.yes 6 rfl (wanted_plain rfl) (opTo_q (d := 29) rfl rfl ev_move) rfl (frLe_cons rfl (frLe_cons rfl (frLe_cons rfl (frLe_cons rfl (frLe_cons rfl (frLe_cons rfl (frLe_cons rfl (frLe_cons rfl frLe_nil)))))))) (stoLe_cons rfl (stoLe_cons rfl (stoLe_cons rfl (stoLe_cons rfl (stoLe_cons rfl (stoLe_cons rfl (stoLe_cons rfl (stoLe_cons rfl (stoLe_cons rfl (stoLe_cons rfl (stoLe_cons rfl (stoLe_cons rfl (stoLe_cons rfl (stoLe_cons rfl (stoLe_cons rfl (stoLe_cons rfl (stoLe_cons rfl (stoLe_cons rfl (stoLe_cons rfl (stoLe_cons rfl (stoLe_cons rfl (stoLe_cons rfl (stoLe_cons rfl (stoLe_cons rfl (stoLe_cons rfl (stoLe_cons rfl (stoLe_cons rfl (stoLe_cons rfl (stoLe_cons rfl (stoLe_cons rfl (stoLe_cons rfl (stoLe_cons rfl (stoLe_cons rfl (stoLe_cons rfl (stoLe_cons rfl stoLe_nil)))))))))))))))))))))))))))))))))))) .nil))) (.cons (.step [2] (by kernel_rfl) rfl (.cons (.yes 7 rfl (wanted_plain rfl) (opTo_call (k := 30) (basic_None_run  v20 h21) rfl rfl) rfl (frLe_cons rfl (frLe_cons rfl (frLe_cons rfl (frLe_cons rfl (frLe_cons rfl (frLe_cons rfl (frLe_cons rfl (frLe_cons rfl (frLe_cons rfl frLe_nil))))))))) (stoLe_cons rfl (stoLe_cons rfl (stoLe_cons rfl (stoLe_cons rfl (stoLe_cons rfl (stoLe_cons rfl (stoLe_cons rfl (stoLe_cons rfl (stoLe_cons rfl (stoLe_cons rfl (stoLe_cons rfl (stoLe_cons rfl (stoLe_cons rfl (stoLe_cons rfl (stoLe_cons rfl (stoLe_cons rfl (stoLe_cons rfl (stoLe_cons rfl (stoLe_cons rfl (stoLe_cons rfl (stoLe_cons rfl (stoLe_cons rfl (stoLe_cons rfl (stoLe_cons rfl (stoLe_cons rfl (stoLe_cons rfl (stoLe_cons rfl (stoLe_cons rfl (stoLe_cons rfl (stoLe_cons rfl (stoLe_cons rfl (stoLe_cons rfl (stoLe_cons rfl (stoLe_cons rfl (stoLe_cons rfl stoLe_nil)))))))))))))))))))))))))))))))))))) .nil)) (.cons (.step [1, 3] (by kernel_rfl) rfl (.cons (.yes 7 rfl (wanted_plain rfl) (opTo_q (d := 29) rfl rfl ev_move) rfl (frLe_cons rfl (frLe_cons rfl (frLe_cons rfl (frLe_cons rfl (frLe_cons rfl (frLe_cons rfl (frLe_cons rfl (frLe_cons rfl (frLe_cons rfl frLe_nil))))))))) (stoLe_cons rfl (stoLe_cons rfl (stoLe_cons rfl (stoLe_cons rfl (stoLe_cons rfl (stoLe_cons rfl (stoLe_cons rfl (stoLe_cons rfl (stoLe_cons rfl (stoLe_cons rfl (stoLe_cons rfl (stoLe_cons rfl (stoLe_cons rfl (stoLe_cons rfl (stoLe_cons rfl (stoLe_cons rfl (stoLe_cons rfl (stoLe_cons rfl (stoLe_cons rfl (stoLe_cons rfl (stoLe_cons rfl (stoLe_cons rfl (stoLe_cons rfl (stoLe_cons rfl (stoLe_cons rfl (stoLe_cons rfl (stoLe_cons rfl (stoLe_cons rfl (stoLe_cons rfl (stoLe_cons rfl (stoLe_cons rfl (stoLe_cons rfl (stoLe_cons rfl (stoLe_cons rfl (stoLe_cons rfl stoLe_nil)))))))))))))))))))))))))))))))))))) (.cons (.yes 8 rfl (wanted_plain rfl) (opTo_store rfl rfl rfl ty_s_uint8 rfl rfl) rfl (frLe_cons rfl (frLe_cons rfl (frLe_cons rfl (frLe_cons rfl (frLe_cons rfl (frLe_cons rfl (frLe_cons rfl (frLe_cons rfl frLe_nil)))))))) (stoLe_cons rfl (stoLe_cons rfl (stoLe_cons rfl (stoLe_cons rfl (stoLe_cons rfl (stoLe_cons rfl (stoLe_cons rfl (stoLe_cons rfl (stoLe_cons rfl (stoLe_cons rfl (stoLe_cons rfl (stoLe_cons rfl (stoLe_cons rfl (stoLe_cons rfl (stoLe_cons rfl (stoLe_cons rfl (stoLe_cons rfl (stoLe_cons rfl (stoLe_cons rfl (stoLe_cons rfl (stoLe_cons rfl (stoLe_cons rfl (stoLe_cons rfl (stoLe_cons rfl (stoLe_cons rfl (stoLe_cons rfl (stoLe_cons rfl (stoLe_cons rfl (stoLe_cons rfl (stoLe_cons rfl (stoLe_cons rfl (stoLe_cons rfl (stoLe_cons rfl (stoLe_cons rfl (stoLe_cons rfl stoLe_nil)))))))))))))))))))))))))))))))))))) .nil))) (.cons (.step [0] (by kernel_rfl) rfl (.cons (.yes 7 rfl (wanted_plain rfl) (opTo_q (d := 28) rfl rfl (ev_load rfl rfl ty_s_uint8 rfl rfl)) rfl (frLe_cons rfl (frLe_cons rfl (frLe_cons rfl (frLe_cons rfl (frLe_cons rfl (frLe_cons rfl (frLe_cons rfl (frLe_cons rfl (frLe_cons rfl frLe_nil))))))))) (stoLe_cons rfl (stoLe_cons rfl (stoLe_cons rfl (stoLe_cons rfl (stoLe_cons rfl (stoLe_cons rfl (stoLe_cons rfl (stoLe_cons rfl (stoLe_cons rfl (stoLe_cons rfl (stoLe_cons rfl (stoLe_cons rfl (stoLe_cons rfl (stoLe_cons rfl (stoLe_cons rfl (stoLe_cons rfl (stoLe_cons rfl (stoLe_cons rfl (stoLe_cons rfl (stoLe_cons rfl (stoLe_cons rfl (stoLe_cons rfl (stoLe_cons rfl (stoLe_cons rfl (stoLe_cons rfl (stoLe_cons rfl (stoLe_cons rfl (stoLe_cons rfl (stoLe_cons rfl (stoLe_cons rfl (stoLe_cons rfl (stoLe_cons rfl (stoLe_cons rfl (stoLe_cons rfl (stoLe_cons rfl stoLe_nil)))))))))))))))))))))))))))))))))))) .nil)) (.cons (.step [3] (by kernel_rfl) rfl (.cons (.yes 9 rfl (wanted_plain rfl) (opTo_store rfl rfl rfl ty_s_uint8 rfl rfl) rfl (frLe_cons rfl (frLe_cons rfl (frLe_cons rfl (frLe_cons rfl (frLe_cons rfl (frLe_cons rfl (frLe_cons rfl (frLe_cons rfl (frLe_cons rfl frLe_nil))))))))) (stoLe_cons rfl (stoLe_cons rfl (stoLe_cons rfl (stoLe_cons rfl (stoLe_cons rfl (stoLe_cons rfl (stoLe_cons rfl (stoLe_cons rfl (stoLe_cons rfl (stoLe_cons rfl (stoLe_cons rfl (stoLe_cons rfl (stoLe_cons rfl (stoLe_cons rfl (stoLe_cons rfl (stoLe_cons rfl (stoLe_cons rfl (stoLe_cons rfl (stoLe_cons rfl (stoLe_cons rfl (stoLe_cons rfl (stoLe_cons rfl (stoLe_cons rfl (stoLe_cons rfl (stoLe_cons rfl (stoLe_cons rfl (stoLe_cons rfl (stoLe_cons rfl (stoLe_cons rfl (stoLe_cons rfl (stoLe_cons rfl (stoLe_cons rfl (stoLe_cons rfl (stoLe_cons rfl (stoLe_cons rfl stoLe_nil)))))))))))))))))))))))))))))))))))) .nil)) (.cons (.step [1] (by kernel_rfl) rfl (.cons (.yes 9 rfl (wanted_plain rfl) (opTo_q (d := 29) rfl rfl ev_move) rfl (frLe_cons rfl (frLe_cons rfl (frLe_cons rfl (frLe_cons rfl (frLe_cons rfl (frLe_cons rfl (frLe_cons rfl (frLe_cons rfl (frLe_cons rfl frLe_nil))))))))) (stoLe_cons rfl (stoLe_cons rfl (stoLe_cons rfl (stoLe_cons rfl (stoLe_cons rfl (stoLe_cons rfl (stoLe_cons rfl (stoLe_cons rfl (stoLe_cons rfl (stoLe_cons rfl (stoLe_cons rfl (stoLe_cons rfl (stoLe_cons rfl (stoLe_cons rfl (stoLe_cons rfl (stoLe_cons rfl (stoLe_cons rfl (stoLe_cons rfl (stoLe_cons rfl (stoLe_cons rfl (stoLe_cons rfl (stoLe_cons rfl (stoLe_cons rfl (stoLe_cons rfl (stoLe_cons rfl (stoLe_cons rfl (stoLe_cons rfl (stoLe_cons rfl (stoLe_cons rfl (stoLe_cons rfl (stoLe_cons rfl (stoLe_cons rfl (stoLe_cons rfl (stoLe_cons rfl (stoLe_cons rfl stoLe_nil)))))))))))))))))))))))))))))))))))) .nil)) (.cons (.step [4] (by kernel_rfl) rfl (.cons (.yes 10 rfl (wanted_plain rfl) (opTo_store rfl rfl rfl ty_int rfl rfl) rfl (frLe_cons rfl (frLe_cons rfl (frLe_cons rfl (frLe_cons rfl (frLe_cons rfl (frLe_cons rfl (frLe_cons rfl (frLe_cons rfl (frLe_cons rfl frLe_nil))))))))) (stoLe_cons rfl (stoLe_cons rfl (stoLe_cons rfl (stoLe_cons rfl (stoLe_cons rfl (stoLe_cons rfl (stoLe_cons rfl (stoLe_cons rfl (stoLe_cons rfl (stoLe_cons rfl (stoLe_cons rfl (stoLe_cons rfl (stoLe_cons rfl (stoLe_cons rfl (stoLe_cons rfl (stoLe_cons rfl (stoLe_cons rfl (stoLe_cons rfl (stoLe_cons rfl (stoLe_cons rfl (stoLe_cons rfl (stoLe_cons rfl (stoLe_cons rfl (stoLe_cons rfl (stoLe_cons rfl (stoLe_cons rfl (stoLe_cons rfl (stoLe_cons rfl (stoLe_cons rfl (stoLe_cons rfl (stoLe_cons rfl (stoLe_cons rfl (stoLe_cons rfl (stoLe_cons rfl (stoLe_cons rfl stoLe_nil)))))))))))))))))))))))))))))))))))) .nil)) (.cons (.step [5] (by kernel_rfl) rfl (.cons (.yes 11 rfl (wanted_plain rfl) (opTo_store rfl rfl rfl ty_bool rfl rfl) rfl (frLe_cons rfl (frLe_cons rfl (frLe_cons rfl (frLe_cons rfl (frLe_cons rfl (frLe_cons rfl (frLe_cons rfl (frLe_cons rfl (frLe_cons rfl frLe_nil))))))))) (stoLe_cons rfl (stoLe_cons rfl (stoLe_cons rfl (stoLe_cons rfl (stoLe_cons rfl (stoLe_cons rfl (stoLe_cons rfl (stoLe_cons rfl (stoLe_cons rfl (stoLe_cons rfl (stoLe_cons rfl (stoLe_cons rfl (stoLe_cons rfl (stoLe_cons rfl (stoLe_cons rfl (stoLe_cons rfl (stoLe_cons rfl (stoLe_cons rfl (stoLe_cons rfl (stoLe_cons rfl (stoLe_cons rfl (stoLe_cons rfl (stoLe_cons rfl (stoLe_cons rfl (stoLe_cons rfl (stoLe_cons rfl (stoLe_cons rfl (stoLe_cons rfl (stoLe_cons rfl (stoLe_cons rfl (stoLe_cons rfl (stoLe_cons rfl (stoLe_cons rfl (stoLe_cons rfl (stoLe_cons rfl stoLe_nil)))))))))))))))))))))))))))))))))))) .nil)) (.cons (.step [6] (by kernel_rfl) rfl (.cons (.yes 12 rfl (wanted_plain rfl) (opTo_store rfl rfl rfl ty_api_Fault rfl rfl) rfl (frLe_cons rfl (frLe_cons rfl (frLe_cons rfl (frLe_cons rfl (frLe_cons rfl (frLe_cons rfl (frLe_cons rfl (frLe_cons rfl (frLe_cons rfl frLe_nil))))))))) (stoLe_cons rfl (stoLe_cons rfl (stoLe_cons rfl (stoLe_cons rfl (stoLe_cons rfl (stoLe_cons rfl (stoLe_cons rfl (stoLe_cons rfl (stoLe_cons rfl (stoLe_cons rfl (stoLe_cons rfl (stoLe_cons rfl (stoLe_cons rfl (stoLe_cons rfl (stoLe_cons rfl (stoLe_cons rfl (stoLe_cons rfl (stoLe_cons rfl (stoLe_cons rfl (stoLe_cons rfl (stoLe_cons rfl (stoLe_cons rfl (stoLe_cons rfl (stoLe_cons rfl (stoLe_cons rfl (stoLe_cons rfl (stoLe_cons rfl (stoLe_cons rfl (stoLe_cons rfl (stoLe_cons rfl (stoLe_cons rfl (stoLe_cons rfl (stoLe_cons rfl (stoLe_cons rfl (stoLe_cons rfl stoLe_nil)))))))))))))))))))))))))))))))))))) .nil)) (.cons (.full (by kernel_rfl) ?_) .nil)))))))))))))
            refine kthen_normal ?_
            refine awp_pubC (o := 2) (j := 0) (F := cU) (l := s4.2.2) rfl rfl rfl ?_
            refine awp_ret ?_
            refine kthen_ret ?_
            refine kblock_ret ?_
            refine rndK (fr'' := [(0, .fn (.yield b10) [] []), (1, .ptr 1 0), (3, .i s4.1), (4, .i v11), (13, .bo (decide (v11 < 0))), (14, .fn (.yield b10) [] []), (15, .l cU a0), (16, .i s4.1), (17, .i s4.1), (18, .i v11), (19, .i ((w64 (s4.1 + v11)))), (20, .l cU v14), (21, .i s4.1), (22, .i v11), (23, .i ((w64 (s4.1 + v11)))), (24, .i ((w64 ((w64 (s4.1 + v11)) + 2))))]) (σ'' := [(1099999, .sus g0.w.heap.size ds10), (1099998, .lp b10 ((stop L10 .ret))), (1000000, .hold (.l cU a0) (T10.getD 0 undef)), (1000002, .hold (.ptr 2 0) (T10.getD 2 undef)), (1000003, .hold (.ptr 3 0) (T10.getD 3 undef)), (1000004, .hold (.ptr 4 0) (T10.getD 4 undef)), (1000005, .hold (.ptr 5 0) (T10.getD 5 undef)), (1000006, .hold (.ptr 6 0) (T10.getD 6 undef)), (1000007, .hold (.ptr 7 0) (T10.getD 7 undef)), (1000017, .hold (.fn (.func 57) [] [.ptr 1 0]) (T10.getD 17 undef)), (1, .cells [.l cU a0]), (7, .cells [.i ((w64 ((w64 (s4.1 + v11)) + 2)))]), (1006, .row 5 false 1 (List.map cU s4.2.2)), (6, .cells [.hs 1006 0]), (5, .cells [.i v20.Code, .i v20.Index]), (4, .cells [.bo true]), (3, .cells [.i ((w64 ((w64 (s4.1 + v11)) + 2)))]), (2, .cells [.l cU s4.2.2])]) .ret stoLe_refl rfl (.cons rfl (.cons rfl (.cons rfl (.cons rfl (.cons rfl (.cons rfl (.cons rfl (.cons rfl (.cons rfl (.cons rfl (.cons rfl (.cons rfl (.cons rfl (.cons rfl (.cons rfl (.cons rfl .nil)))))))))))))))) rfl (stoLe_cons rfl (stoLe_cons rfl (stoLe_cons rfl (stoLe_cons rfl (stoLe_cons rfl (stoLe_cons rfl (stoLe_cons rfl (stoLe_cons rfl (stoLe_cons rfl (stoLe_cons rfl (stoLe_cons rfl (stoLe_cons rfl (stoLe_cons rfl (stoLe_cons rfl (stoLe_cons rfl (stoLe_cons rfl (stoLe_cons rfl (stoLe_cons rfl stoLe_nil)))))))))))))))))) ?_
            refine awpl_yes (d := 13) rfl rfl rfl c13 (opTo_q (d := 26) rfl rfl (ev_not rfl)) ?_
            refine awpl_op rfl (opTo_q (d := 27) rfl rfl (ev_pick_f rfl c13)) ?_
            refine awpl_nil ?_
            refine kthen_normal ?_
            refine awp_cond (t := true) rfl (fun _ => ?_) (fun h => nomatch h)
            refine awp_ret ?_
            refine kthen_ret ?_
            refine kblock_ret ?_
            cases hr
            exact ⟨by simp, rfl, frLe_nil, (stoLe_cons rfl (stoLe_cons rfl (stoLe_cons rfl (stoLe_cons rfl (stoLe_cons rfl (stoLe_cons rfl (stoLe_cons rfl (stoLe_cons rfl (stoLe_cons rfl (stoLe_cons rfl (stoLe_cons rfl (stoLe_cons rfl (stoLe_cons rfl (stoLe_cons rfl (stoLe_cons rfl (stoLe_cons rfl (stoLe_cons rfl (stoLe_cons rfl stoLe_nil))))))))))))))))))⟩
        · replace hr := cond_f c16 hr
          refine awp_skip ?_
          refine kthen_normal ?_
          obtain ⟨v22, h23, hr⟩ := bind_some hr
          obtain ⟨v24, h25, hr⟩ := bind_some hr
          obtain ⟨v26, h27, hr⟩ := bind_some hr
          refine awp_explore [([false, false, false, false, false, false, false, false], [(6, .ptr 6 0), (8, .l cU v14)], [(1699999, .sus g0.w.heap.size ds16), (1600000, .hold (.fn (.yield b10) [] []) (T16.getD 0 undef)), (1600001, .hold (.ptr 1 0) (T16.getD 1 undef)), (1600003, .hold (.i s4.1) (T16.getD 3 undef)), (1600004, .hold (.i v11) (T16.getD 4 undef)), (1600013, .hold (.bo (decide (v11 < 0))) (T16.getD 13 undef)), (1600014, .hold (.fn (.yield b10) [] []) (T16.getD 14 undef)), (1600015, .hold (.l cU a0) (T16.getD 15 undef)), (1600016, .hold (.i s4.1) (T16.getD 16 undef)), (1600017, .hold (.i s4.1) (T16.getD 17 undef)), (1600018, .hold (.i v11) (T16.getD 18 undef)), (1600019, .hold (.i ((w64 (s4.1 + v11)))) (T16.getD 19 undef)), (1600020, .hold (.l cU v14) (T16.getD 20 undef)), (1600021, .hold (.i s4.1) (T16.getD 21 undef)), (1600022, .hold (.i v11) (T16.getD 22 undef)), (1600023, .hold (.i ((w64 (s4.1 + v11)))) (T16.getD 23 undef)), (1600024, .hold (.i ((w64 ((w64 (s4.1 + v11)) + 2)))) (T16.getD 24 undef)), (1099999, .sus g0.w.heap.size ds10), (1099998, .lp b10 ((busy L10))), (1000000, .hold (.l cU a0) (T10.getD 0 undef)), (1000002, .hold (.ptr 2 0) (T10.getD 2 undef)), (1000003, .hold (.ptr 3 0) (T10.getD 3 undef)), (1000004, .hold (.ptr 4 0) (T10.getD 4 undef)), (1000005, .hold (.ptr 5 0) (T10.getD 5 undef)), (1000006, .hold (.ptr 6 0) (T10.getD 6 undef)), (1000007, .hold (.ptr 7 0) (T10.getD 7 undef)), (1000017, .hold (.fn (.func 57) [] [.ptr 1 0]) (T10.getD 17 undef)), (1, .cells [.l cU a0]), (7, .cells [.i ((w64 ((w64 (s4.1 + v11)) + 2)))]), (1006, .row 5 false 1 (List.map cU s4.2.2)), (6, .cells [.hs 1006 0]), (5, .cells [.i 0, .i 0]), (4, .cells [.bo false]), (3, .cells [.i 0]), (2, .cells [.l cU ([])])]), ([true, false, false, false, false, false, false, false], [(6, .ptr 6 0), (8, .l cU v14), (31, .hs 1006 0)], [(1699999, .sus g0.w.heap.size ds16), (1600000, .hold (.fn (.yield b10) [] []) (T16.getD 0 undef)), (1600001, .hold (.ptr 1 0) (T16.getD 1 undef)), (1600003, .hold (.i s4.1) (T16.getD 3 undef)), (1600004, .hold (.i v11) (T16.getD 4 undef)), (1600013, .hold (.bo (decide (v11 < 0))) (T16.getD 13 undef)), (1600014, .hold (.fn (.yield b10) [] []) (T16.getD 14 undef)), (1600015, .hold (.l cU a0) (T16.getD 15 undef)), (1600016, .hold (.i s4.1) (T16.getD 16 undef)), (1600017, .hold (.i s4.1) (T16.getD 17 undef)), (1600018, .hold (.i v11) (T16.getD 18 undef)), (1600019, .hold (.i ((w64 (s4.1 + v11)))) (T16.getD 19 undef)), (1600020, .hold (.l cU v14) (T16.getD 20 undef)), (1600021, .hold (.i s4.1) (T16.getD 21 undef)), (1600022, .hold (.i v11) (T16.getD 22 undef)), (1600023, .hold (.i ((w64 (s4.1 + v11)))) (T16.getD 23 undef)), (1600024, .hold (.i ((w64 ((w64 (s4.1 + v11)) + 2)))) (T16.getD 24 undef)), (1099999, .sus g0.w.heap.size ds10), (1099998, .lp b10 ((busy L10))), (1000000, .hold (.l cU a0) (T10.getD 0 undef)), (1000002, .hold (.ptr 2 0) (T10.getD 2 undef)), (1000003, .hold (.ptr 3 0) (T10.getD 3 undef)), (1000004, .hold (.ptr 4 0) (T10.getD 4 undef)), (1000005, .hold (.ptr 5 0) (T10.getD 5 undef)), (1000006, .hold (.ptr 6 0) (T10.getD 6 undef)), (1000007, .hold (.ptr 7 0) (T10.getD 7 undef)), (1000017, .hold (.fn (.func 57) [] [.ptr 1 0]) (T10.getD 17 undef)), (1, .cells [.l cU a0]), (7, .cells [.i ((w64 ((w64 (s4.1 + v11)) + 2)))]), (1006, .row 5 false 1 (List.map cU s4.2.2)), (6, .cells [.hs 1006 0]), (5, .cells [.i 0, .i 0]), (4, .cells [.bo false]), (3, .cells [.i 0]), (2, .cells [.l cU ([])])]), ([false, true, false, false, false, false, false, false], [(6, .ptr 6 0), (8, .l cU v14), (32, .l cU v14)], [(1699999, .sus g0.w.heap.size ds16), (1600000, .hold (.fn (.yield b10) [] []) (T16.getD 0 undef)), (1600001, .hold (.ptr 1 0) (T16.getD 1 undef)), (1600003, .hold (.i s4.1) (T16.getD 3 undef)), (1600004, .hold (.i v11) (T16.getD 4 undef)), (1600013, .hold (.bo (decide (v11 < 0))) (T16.getD 13 undef)), (1600014, .hold (.fn (.yield b10) [] []) (T16.getD 14 undef)), (1600015, .hold (.l cU a0) (T16.getD 15 undef)), (1600016, .hold (.i s4.1) (T16.getD 16 undef)), (1600017, .hold (.i s4.1) (T16.getD 17 undef)), (1600018, .hold (.i v11) (T16.getD 18 undef)), (1600019, .hold (.i ((w64 (s4.1 + v11)))) (T16.getD 19 undef)), (1600020, .hold (.l cU v14) (T16.getD 20 undef)), (1600021, .hold (.i s4.1) (T16.getD 21 undef)), (1600022, .hold (.i v11) (T16.getD 22 undef)), (1600023, .hold (.i ((w64 (s4.1 + v11)))) (T16.getD 23 undef)), (1600024, .hold (.i ((w64 ((w64 (s4.1 + v11)) + 2)))) (T16.getD 24 undef)), (1099999, .sus g0.w.heap.size ds10), (1099998, .lp b10 ((busy L10))), (1000000, .hold (.l cU a0) (T10.getD 0 undef)), (1000002, .hold (.ptr 2 0) (T10.getD 2 undef)), (1000003, .hold (.ptr 3 0) (T10.getD 3 undef)), (1000004, .hold (.ptr 4 0) (T10.getD 4 undef)), (1000005, .hold (.ptr 5 0) (T10.getD 5 undef)), (1000006, .hold (.ptr 6 0) (T10.getD 6 undef)), (1000007, .hold (.ptr 7 0) (T10.getD 7 undef)), (1000017, .hold (.fn (.func 57) [] [.ptr 1 0]) (T10.getD 17 undef)), (1, .cells [.l cU a0]), (7, .cells [.i ((w64 ((w64 (s4.1 + v11)) + 2)))]), (1006, .row 5 false 1 (List.map cU s4.2.2)), (6, .cells [.hs 1006 0]), (5, .cells [.i 0, .i 0]), (4, .cells [.bo false]), (3, .cells [.i 0]), (2, .cells [.l cU ([])])]), ([false, false, true, false, false, false, false, false], [(6, .ptr 6 0), (8, .l cU v14), (33, .hs 1033 0)], [(1033, .row 5 true 1 (List.map cU (([(46 : UInt8)] : List UInt8)))), (1699999, .sus g0.w.heap.size ds16), (1600000, .hold (.fn (.yield b10) [] []) (T16.getD 0 undef)), (1600001, .hold (.ptr 1 0) (T16.getD 1 undef)), (1600003, .hold (.i s4.1) (T16.getD 3 undef)), (1600004, .hold (.i v11) (T16.getD 4 undef)), (1600013, .hold (.bo (decide (v11 < 0))) (T16.getD 13 undef)), (1600014, .hold (.fn (.yield b10) [] []) (T16.getD 14 undef)), (1600015, .hold (.l cU a0) (T16.getD 15 undef)), (1600016, .hold (.i s4.1) (T16.getD 16 undef)), (1600017, .hold (.i s4.1) (T16.getD 17 undef)), (1600018, .hold (.i v11) (T16.getD 18 undef)), (1600019, .hold (.i ((w64 (s4.1 + v11)))) (T16.getD 19 undef)), (1600020, .hold (.l cU v14) (T16.getD 20 undef)), (1600021, .hold (.i s4.1) (T16.getD 21 undef)), (1600022, .hold (.i v11) (T16.getD 22 undef)), (1600023, .hold (.i ((w64 (s4.1 + v11)))) (T16.getD 23 undef)), (1600024, .hold (.i ((w64 ((w64 (s4.1 + v11)) + 2)))) (T16.getD 24 undef)), (1099999, .sus g0.w.heap.size ds10), (1099998, .lp b10 ((busy L10))), (1000000, .hold (.l cU a0) (T10.getD 0 undef)), (1000002, .hold (.ptr 2 0) (T10.getD 2 undef)), (1000003, .hold (.ptr 3 0) (T10.getD 3 undef)), (1000004, .hold (.ptr 4 0) (T10.getD 4 undef)), (1000005, .hold (.ptr 5 0) (T10.getD 5 undef)), (1000006, .hold (.ptr 6 0) (T10.getD 6 undef)), (1000007, .hold (.ptr 7 0) (T10.getD 7 undef)), (1000017, .hold (.fn (.func 57) [] [.ptr 1 0]) (T10.getD 17 undef)), (1, .cells [.l cU a0]), (7, .cells [.i ((w64 ((w64 (s4.1 + v11)) + 2)))]), (1006, .row 5 false 1 (List.map cU s4.2.2)), (6, .cells [.hs 1006 0]), (5, .cells [.i 0, .i 0]), (4, .cells [.bo false]), (3, .cells [.i 0]), (2, .cells [.l cU ([])])]), ([true, true, false, false, false, false, false, false], [(6, .ptr 6 0), (8, .l cU v14), (31, .hs 1006 0), (32, .l cU v14)], [(1699999, .sus g0.w.heap.size ds16), (1600000, .hold (.fn (.yield b10) [] []) (T16.getD 0 undef)), (1600001, .hold (.ptr 1 0) (T16.getD 1 undef)), (1600003, .hold (.i s4.1) (T16.getD 3 undef)), (1600004, .hold (.i v11) (T16.getD 4 undef)), (1600013, .hold (.bo (decide (v11 < 0))) (T16.getD 13 undef)), (1600014, .hold (.fn (.yield b10) [] []) (T16.getD 14 undef)), (1600015, .hold (.l cU a0) (T16.getD 15 undef)), (1600016, .hold (.i s4.1) (T16.getD 16 undef)), (1600017, .hold (.i s4.1) (T16.getD 17 undef)), (1600018, .hold (.i v11) (T16.getD 18 undef)), (1600019, .hold (.i ((w64 (s4.1 + v11)))) (T16.getD 19 undef)), (1600020, .hold (.l cU v14) (T16.getD 20 undef)), (1600021, .hold (.i s4.1) (T16.getD 21 undef)), (1600022, .hold (.i v11) (T16.getD 22 undef)), (1600023, .hold (.i ((w64 (s4.1 + v11)))) (T16.getD 23 undef)), (1600024, .hold (.i ((w64 ((w64 (s4.1 + v11)) + 2)))) (T16.getD 24 undef)), (1099999, .sus g0.w.heap.size ds10), (1099998, .lp b10 ((busy L10))), (1000000, .hold (.l cU a0) (T10.getD 0 undef)), (1000002, .hold (.ptr 2 0) (T10.getD 2 undef)), (1000003, .hold (.ptr 3 0) (T10.getD 3 undef)), (1000004, .hold (.ptr 4 0) (T10.getD 4 undef)), (1000005, .hold (.ptr 5 0) (T10.getD 5 undef)), (1000006, .hold (.ptr 6 0) (T10.getD 6 undef)), (1000007, .hold (.ptr 7 0) (T10.getD 7 undef)), (1000017, .hold (.fn (.func 57) [] [.ptr 1 0]) (T10.getD 17 undef)), (1, .cells [.l cU a0]), (7, .cells [.i ((w64 ((w64 (s4.1 + v11)) + 2)))]), (1006, .row 5 false 1 (List.map cU s4.2.2)), (6, .cells [.hs 1006 0]), (5, .cells [.i 0, .i 0]), (4, .cells [.bo false]), (3, .cells [.i 0]), (2, .cells [.l cU ([])])]), ([true, false, true, false, false, false, false, false], [(6, .ptr 6 0), (8, .l cU v14), (31, .hs 1006 0), (33, .hs 1033 0)], [(1033, .row 5 true 1 (List.map cU (([(46 : UInt8)] : List UInt8)))), (1699999, .sus g0.w.heap.size ds16), (1600000, .hold (.fn (.yield b10) [] []) (T16.getD 0 undef)), (1600001, .hold (.ptr 1 0) (T16.getD 1 undef)), (1600003, .hold (.i s4.1) (T16.getD 3 undef)), (1600004, .hold (.i v11) (T16.getD 4 undef)), (1600013, .hold (.bo (decide (v11 < 0))) (T16.getD 13 undef)), (1600014, .hold (.fn (.yield b10) [] []) (T16.getD 14 undef)), (1600015, .hold (.l cU a0) (T16.getD 15 undef)), (1600016, .hold (.i s4.1) (T16.getD 16 undef)), (1600017, .hold (.i s4.1) (T16.getD 17 undef)), (1600018, .hold (.i v11) (T16.getD 18 undef)), (1600019, .hold (.i ((w64 (s4.1 + v11)))) (T16.getD 19 undef)), (1600020, .hold (.l cU v14) (T16.getD 20 undef)), (1600021, .hold (.i s4.1) (T16.getD 21 undef)), (1600022, .hold (.i v11) (T16.getD 22 undef)), (1600023, .hold (.i ((w64 (s4.1 + v11)))) (T16.getD 23 undef)), (1600024, .hold (.i ((w64 ((w64 (s4.1 + v11)) + 2)))) (T16.getD 24 undef)), (1099999, .sus g0.w.heap.size ds10), (1099998, .lp b10 ((busy L10))), (1000000, .hold (.l cU a0) (T10.getD 0 undef)), (1000002, .hold (.ptr 2 0) (T10.getD 2 undef)), (1000003, .hold (.ptr 3 0) (T10.getD 3 undef)), (1000004, .hold (.ptr 4 0) (T10.getD 4 undef)), (1000005, .hold (.ptr 5 0) (T10.getD 5 undef)), (1000006, .hold (.ptr 6 0) (T10.getD 6 undef)), (1000007, .hold (.ptr 7 0) (T10.getD 7 undef)), (1000017, .hold (.fn (.func 57) [] [.ptr 1 0]) (T10.getD 17 undef)), (1, .cells [.l cU a0]), (7, .cells [.i ((w64 ((w64 (s4.1 + v11)) + 2)))]), (1006, .row 5 false 1 (List.map cU s4.2.2)), (6, .cells [.hs 1006 0]), (5, .cells [.i 0, .i 0]), (4, .cells [.bo false]), (3, .cells [.i 0]), (2, .cells [.l cU ([])])]), ([false, true, true, false, false, false, false, false], [(6, .ptr 6 0), (8, .l cU v14), (32, .l cU v14), (33, .hs 1033 0)], [(1033, .row 5 true 1 (List.map cU (([(46 : UInt8)] : List UInt8)))), (1699999, .sus g0.w.heap.size ds16), (1600000, .hold (.fn (.yield b10) [] []) (T16.getD 0 undef)), (1600001, .hold (.ptr 1 0) (T16.getD 1 undef)), (1600003, .hold (.i s4.1) (T16.getD 3 undef)), (1600004, .hold (.i v11) (T16.getD 4 undef)), (1600013, .hold (.bo (decide (v11 < 0))) (T16.getD 13 undef)), (1600014, .hold (.fn (.yield b10) [] []) (T16.getD 14 undef)), (1600015, .hold (.l cU a0) (T16.getD 15 undef)), (1600016, .hold (.i s4.1) (T16.getD 16 undef)), (1600017, .hold (.i s4.1) (T16.getD 17 undef)), (1600018, .hold (.i v11) (T16.getD 18 undef)), (1600019, .hold (.i ((w64 (s4.1 + v11)))) (T16.getD 19 undef)), (1600020, .hold (.l cU v14) (T16.getD 20 undef)), (1600021, .hold (.i s4.1) (T16.getD 21 undef)), (1600022, .hold (.i v11) (T16.getD 22 undef)), (1600023, .hold (.i ((w64 (s4.1 + v11)))) (T16.getD 23 undef)), (1600024, .hold (.i ((w64 ((w64 (s4.1 + v11)) + 2)))) (T16.getD 24 undef)), (1099999, .sus g0.w.heap.size ds10), (1099998, .lp b10 ((busy L10))), (1000000, .hold (.l cU a0) (T10.getD 0 undef)), (1000002, .hold (.ptr 2 0) (T10.getD 2 undef)), (1000003, .hold (.ptr 3 0) (T10.getD 3 undef)), (1000004, .hold (.ptr 4 0) (T10.getD 4 undef)), (1000005, .hold (.ptr 5 0) (T10.getD 5 undef)), (1000006, .hold (.ptr 6 0) (T10.getD 6 undef)), (1000007, .hold (.ptr 7 0) (T10.getD 7 undef)), (1000017, .hold (.fn (.func 57) [] [.ptr 1 0]) (T10.getD 17 undef)), (1, .cells [.l cU a0]), (7, .cells [.i ((w64 ((w64 (s4.1 + v11)) + 2)))]), (1006, .row 5 false 1 (List.map cU s4.2.2)), (6, .cells [.hs 1006 0]), (5, .cells [.i 0, .i 0]), (4, .cells [.bo false]), (3, .cells [.i 0]), (2, .cells [.l cU ([])])]), ([false, false, true, true, false, false, false, false], [(6, .ptr 6 0), (8, .l cU v14), (33, .hs 1033 0), (34, .l cU (([(46 : UInt8)] : List UInt8)))], [(1699999, .sus g0.w.heap.size ds16), (1600000, .hold (.fn (.yield b10) [] []) (T16.getD 0 undef)), (1600001, .hold (.ptr 1 0) (T16.getD 1 undef)), (1600003, .hold (.i s4.1) (T16.getD 3 undef)), (1600004, .hold (.i v11) (T16.getD 4 undef)), (1600013, .hold (.bo (decide (v11 < 0))) (T16.getD 13 undef)), (1600014, .hold (.fn (.yield b10) [] []) (T16.getD 14 undef)), (1600015, .hold (.l cU a0) (T16.getD 15 undef)), (1600016, .hold (.i s4.1) (T16.getD 16 undef)), (1600017, .hold (.i s4.1) (T16.getD 17 undef)), (1600018, .hold (.i v11) (T16.getD 18 undef)), (1600019, .hold (.i ((w64 (s4.1 + v11)))) (T16.getD 19 undef)), (1600020, .hold (.l cU v14) (T16.getD 20 undef)), (1600021, .hold (.i s4.1) (T16.getD 21 undef)), (1600022, .hold (.i v11) (T16.getD 22 undef)), (1600023, .hold (.i ((w64 (s4.1 + v11)))) (T16.getD 23 undef)), (1600024, .hold (.i ((w64 ((w64 (s4.1 + v11)) + 2)))) (T16.getD 24 undef)), (1099999, .sus g0.w.heap.size ds10), (1099998, .lp b10 ((busy L10))), (1000000, .hold (.l cU a0) (T10.getD 0 undef)), (1000002, .hold (.ptr 2 0) (T10.getD 2 undef)), (1000003, .hold (.ptr 3 0) (T10.getD 3 undef)), (1000004, .hold (.ptr 4 0) (T10.getD 4 undef)), (1000005, .hold (.ptr 5 0) (T10.getD 5 undef)), (1000006, .hold (.ptr 6 0) (T10.getD 6 undef)), (1000007, .hold (.ptr 7 0) (T10.getD 7 undef)), (1000017, .hold (.fn (.func 57) [] [.ptr 1 0]) (T10.getD 17 undef)), (1, .cells [.l cU a0]), (7, .cells [.i ((w64 ((w64 (s4.1 + v11)) + 2)))]), (1006, .row 5 false 1 (List.map cU s4.2.2)), (6, .cells [.hs 1006 0]), (5, .cells [.i 0, .i 0]), (4, .cells [.bo false]), (3, .cells [.i 0]), (2, .cells [.l cU ([])])]), ([true, true, true, false, false, false, false, false], [(6, .ptr 6 0), (8, .l cU v14), (31, .hs 1006 0), (32, .l cU v14), (33, .hs 1033 0)], [(1033, .row 5 true 1 (List.map cU (([(46 : UInt8)] : List UInt8)))), (1699999, .sus g0.w.heap.size ds16), (1600000, .hold (.fn (.yield b10) [] []) (T16.getD 0 undef)), (1600001, .hold (.ptr 1 0) (T16.getD 1 undef)), (1600003, .hold (.i s4.1) (T16.getD 3 undef)), (1600004, .hold (.i v11) (T16.getD 4 undef)), (1600013, .hold (.bo (decide (v11 < 0))) (T16.getD 13 undef)), (1600014, .hold (.fn (.yield b10) [] []) (T16.getD 14 undef)), (1600015, .hold (.l cU a0) (T16.getD 15 undef)), (1600016, .hold (.i s4.1) (T16.getD 16 undef)), (1600017, .hold (.i s4.1) (T16.getD 17 undef)), (1600018, .hold (.i v11) (T16.getD 18 undef)), (1600019, .hold (.i ((w64 (s4.1 + v11)))) (T16.getD 19 undef)), (1600020, .hold (.l cU v14) (T16.getD 20 undef)), (1600021, .hold (.i s4.1) (T16.getD 21 undef)), (1600022, .hold (.i v11) (T16.getD 22 undef)), (1600023, .hold (.i ((w64 (s4.1 + v11)))) (T16.getD 23 undef)), (1600024, .hold (.i ((w64 ((w64 (s4.1 + v11)) + 2)))) (T16.getD 24 undef)), (1099999, .sus g0.w.heap.size ds10), (1099998, .lp b10 ((busy L10))), (1000000, .hold (.l cU a0) (T10.getD 0 undef)), (1000002, .hold (.ptr 2 0) (T10.getD 2 undef)), (1000003, .hold (.ptr 3 0) (T10.getD 3 undef)), (1000004, .hold (.ptr 4 0) (T10.getD 4 undef)), (1000005, .hold (.ptr 5 0) (T10.getD 5 undef)), (1000006, .hold (.ptr 6 0) (T10.getD 6 undef)), (1000007, .hold (.ptr 7 0) (T10.getD 7 undef)), (1000017, .hold (.fn (.func 57) [] [.ptr 1 0]) (T10.getD 17 undef)), (1, .cells [.l cU a0]), (7, .cells [.i ((w64 ((w64 (s4.1 + v11)) + 2)))]), (1006, .row 5 false 1 (List.map cU s4.2.2)), (6, .cells [.hs 1006 0]), (5, .cells [.i 0, .i 0]), (4, .cells [.bo false]), (3, .cells [.i 0]), (2, .cells [.l cU ([])])]), ([true, false, true, true, false, false, false, false], [(6, .ptr 6 0), (8, .l cU v14), (31, .hs 1006 0), (33, .hs 1033 0), (34, .l cU (([(46 : UInt8)] : List UInt8)))], [(1699999, .sus g0.w.heap.size ds16), (1600000, .hold (.fn (.yield b10) [] []) (T16.getD 0 undef)), (1600001, .hold (.ptr 1 0) (T16.getD 1 undef)), (1600003, .hold (.i s4.1) (T16.getD 3 undef)), (1600004, .hold (.i v11) (T16.getD 4 undef)), (1600013, .hold (.bo (decide (v11 < 0))) (T16.getD 13 undef)), (1600014, .hold (.fn (.yield b10) [] []) (T16.getD 14 undef)), (1600015, .hold (.l cU a0) (T16.getD 15 undef)), (1600016, .hold (.i s4.1) (T16.getD 16 undef)), (1600017, .hold (.i s4.1) (T16.getD 17 undef)), (1600018, .hold (.i v11) (T16.getD 18 undef)), (1600019, .hold (.i ((w64 (s4.1 + v11)))) (T16.getD 19 undef)), (1600020, .hold (.l cU v14) (T16.getD 20 undef)), (1600021, .hold (.i s4.1) (T16.getD 21 undef)), (1600022, .hold (.i v11) (T16.getD 22 undef)), (1600023, .hold (.i ((w64 (s4.1 + v11)))) (T16.getD 23 undef)), (1600024, .hold (.i ((w64 ((w64 (s4.1 + v11)) + 2)))) (T16.getD 24 undef)), (1099999, .sus g0.w.heap.size ds10), (1099998, .lp b10 ((busy L10))), (1000000, .hold (.l cU a0) (T10.getD 0 undef)), (1000002, .hold (.ptr 2 0) (T10.getD 2 undef)), (1000003, .hold (.ptr 3 0) (T10.getD 3 undef)), (1000004, .hold (.ptr 4 0) (T10.getD 4 undef)), (1000005, .hold (.ptr 5 0) (T10.getD 5 undef)), (1000006, .hold (.ptr 6 0) (T10.getD 6 undef)), (1000007, .hold (.ptr 7 0) (T10.getD 7 undef)), (1000017, .hold (.fn (.func 57) [] [.ptr 1 0]) (T10.getD 17 undef)), (1, .cells [.l cU a0]), (7, .cells [.i ((w64 ((w64 (s4.1 + v11)) + 2)))]), (1006, .row 5 false 1 (List.map cU s4.2.2)), (6, .cells [.hs 1006 0]), (5, .cells [.i 0, .i 0]), (4, .cells [.bo false]), (3, .cells [.i 0]), (2, .cells [.l cU ([])])]), ([false, true, true, true, false, false, false, false], [(6, .ptr 6 0), (8, .l cU v14), (32, .l cU v14), (33, .hs 1033 0), (34, .l cU (([(46 : UInt8)] : List UInt8)))], [(1699999, .sus g0.w.heap.size ds16), (1600000, .hold (.fn (.yield b10) [] []) (T16.getD 0 undef)), (1600001, .hold (.ptr 1 0) (T16.getD 1 undef)), (1600003, .hold (.i s4.1) (T16.getD 3 undef)), (1600004, .hold (.i v11) (T16.getD 4 undef)), (1600013, .hold (.bo (decide (v11 < 0))) (T16.getD 13 undef)), (1600014, .hold (.fn (.yield b10) [] []) (T16.getD 14 undef)), (1600015, .hold (.l cU a0) (T16.getD 15 undef)), (1600016, .hold (.i s4.1) (T16.getD 16 undef)), (1600017, .hold (.i s4.1) (T16.getD 17 undef)), (1600018, .hold (.i v11) (T16.getD 18 undef)), (1600019, .hold (.i ((w64 (s4.1 + v11)))) (T16.getD 19 undef)), (1600020, .hold (.l cU v14) (T16.getD 20 undef)), (1600021, .hold (.i s4.1) (T16.getD 21 undef)), (1600022, .hold (.i v11) (T16.getD 22 undef)), (1600023, .hold (.i ((w64 (s4.1 + v11)))) (T16.getD 23 undef)), (1600024, .hold (.i ((w64 ((w64 (s4.1 + v11)) + 2)))) (T16.getD 24 undef)), (1099999, .sus g0.w.heap.size ds10), (1099998, .lp b10 ((busy L10))), (1000000, .hold (.l cU a0) (T10.getD 0 undef)), (1000002, .hold (.ptr 2 0) (T10.getD 2 undef)), (1000003, .hold (.ptr 3 0) (T10.getD 3 undef)), (1000004, .hold (.ptr 4 0) (T10.getD 4 undef)), (1000005, .hold (.ptr 5 0) (T10.getD 5 undef)), (1000006, .hold (.ptr 6 0) (T10.getD 6 undef)), (1000007, .hold (.ptr 7 0) (T10.getD 7 undef)), (1000017, .hold (.fn (.func 57) [] [.ptr 1 0]) (T10.getD 17 undef)), (1, .cells [.l cU a0]), (7, .cells [.i ((w64 ((w64 (s4.1 + v11)) + 2)))]), (1006, .row 5 false 1 (List.map cU s4.2.2)), (6, .cells [.hs 1006 0]), (5, .cells [.i 0, .i 0]), (4, .cells [.bo false]), (3, .cells [.i 0]), (2, .cells [.l cU ([])])]), ([true, true, true, true, false, false, false, false], [(6, .ptr 6 0), (8, .l cU v14), (31, .hs 1006 0), (32, .l cU v14), (33, .hs 1033 0), (34, .l cU (([(46 : UInt8)] : List UInt8)))], [(1699999, .sus g0.w.heap.size ds16), (1600000, .hold (.fn (.yield b10) [] []) (T16.getD 0 undef)), (1600001, .hold (.ptr 1 0) (T16.getD 1 undef)), (1600003, .hold (.i s4.1) (T16.getD 3 undef)), (1600004, .hold (.i v11) (T16.getD 4 undef)), (1600013, .hold (.bo (decide (v11 < 0))) (T16.getD 13 undef)), (1600014, .hold (.fn (.yield b10) [] []) (T16.getD 14 undef)), (1600015, .hold (.l cU a0) (T16.getD 15 undef)), (1600016, .hold (.i s4.1) (T16.getD 16 undef)), (1600017, .hold (.i s4.1) (T16.getD 17 undef)), (1600018, .hold (.i v11) (T16.getD 18 undef)), (1600019, .hold (.i ((w64 (s4.1 + v11)))) (T16.getD 19 undef)), (1600020, .hold (.l cU v14) (T16.getD 20 undef)), (1600021, .hold (.i s4.1) (T16.getD 21 undef)), (1600022, .hold (.i v11) (T16.getD 22 undef)), (1600023, .hold (.i ((w64 (s4.1 + v11)))) (T16.getD 23 undef)), (1600024, .hold (.i ((w64 ((w64 (s4.1 + v11)) + 2)))) (T16.getD 24 undef)), (1099999, .sus g0.w.heap.size ds10), (1099998, .lp b10 ((busy L10))), (1000000, .hold (.l cU a0) (T10.getD 0 undef)), (1000002, .hold (.ptr 2 0) (T10.getD 2 undef)), (1000003, .hold (.ptr 3 0) (T10.getD 3 undef)), (1000004, .hold (.ptr 4 0) (T10.getD 4 undef)), (1000005, .hold (.ptr 5 0) (T10.getD 5 undef)), (1000006, .hold (.ptr 6 0) (T10.getD 6 undef)), (1000007, .hold (.ptr 7 0) (T10.getD 7 undef)), (1000017, .hold (.fn (.func 57) [] [.ptr 1 0]) (T10.getD 17 undef)), (1, .cells [.l cU a0]), (7, .cells [.i ((w64 ((w64 (s4.1 + v11)) + 2)))]), (1006, .row 5 false 1 (List.map cU s4.2.2)), (6, .cells [.hs 1006 0]), (5, .cells [.i 0, .i 0]), (4, .cells [.bo false]), (3, .cells [.i 0]), (2, .cells [.l cU ([])])]), ([false, true, true, true, true, false, false, false], [(6, .ptr 6 0), (8, .l cU v14), (32, .l cU v14), (33, .hs 1033 0), (34, .l cU (([(46 : UInt8)] : List UInt8))), (35, .l cU v22)], [(1699999, .sus g0.w.heap.size ds16), (1600000, .hold (.fn (.yield b10) [] []) (T16.getD 0 undef)), (1600001, .hold (.ptr 1 0) (T16.getD 1 undef)), (1600003, .hold (.i s4.1) (T16.getD 3 undef)), (1600004, .hold (.i v11) (T16.getD 4 undef)), (1600013, .hold (.bo (decide (v11 < 0))) (T16.getD 13 undef)), (1600014, .hold (.fn (.yield b10) [] []) (T16.getD 14 undef)), (1600015, .hold (.l cU a0) (T16.getD 15 undef)), (1600016, .hold (.i s4.1) (T16.getD 16 undef)), (1600017, .hold (.i s4.1) (T16.getD 17 undef)), (1600018, .hold (.i v11) (T16.getD 18 undef)), (1600019, .hold (.i ((w64 (s4.1 + v11)))) (T16.getD 19 undef)), (1600020, .hold (.l cU v14) (T16.getD 20 undef)), (1600021, .hold (.i s4.1) (T16.getD 21 undef)), (1600022, .hold (.i v11) (T16.getD 22 undef)), (1600023, .hold (.i ((w64 (s4.1 + v11)))) (T16.getD 23 undef)), (1600024, .hold (.i ((w64 ((w64 (s4.1 + v11)) + 2)))) (T16.getD 24 undef)), (1099999, .sus g0.w.heap.size ds10), (1099998, .lp b10 ((busy L10))), (1000000, .hold (.l cU a0) (T10.getD 0 undef)), (1000002, .hold (.ptr 2 0) (T10.getD 2 undef)), (1000003, .hold (.ptr 3 0) (T10.getD 3 undef)), (1000004, .hold (.ptr 4 0) (T10.getD 4 undef)), (1000005, .hold (.ptr 5 0) (T10.getD 5 undef)), (1000006, .hold (.ptr 6 0) (T10.getD 6 undef)), (1000007, .hold (.ptr 7 0) (T10.getD 7 undef)), (1000017, .hold (.fn (.func 57) [] [.ptr 1 0]) (T10.getD 17 undef)), (1, .cells [.l cU a0]), (7, .cells [.i ((w64 ((w64 (s4.1 + v11)) + 2)))]), (1006, .row 5 false 1 (List.map cU s4.2.2)), (6, .cells [.hs 1006 0]), (5, .cells [.i 0, .i 0]), (4, .cells [.bo false]), (3, .cells [.i 0]), (2, .cells [.l cU ([])])]), ([true, true, true, true, true, false, false, false], [(6, .ptr 6 0), (8, .l cU v14), (31, .hs 1006 0), (32, .l cU v14), (33, .hs 1033 0), (34, .l cU (([(46 : UInt8)] : List UInt8))), (35, .l cU v22)], [(1699999, .sus g0.w.heap.size ds16), (1600000, .hold (.fn (.yield b10) [] []) (T16.getD 0 undef)), (1600001, .hold (.ptr 1 0) (T16.getD 1 undef)), (1600003, .hold (.i s4.1) (T16.getD 3 undef)), (1600004, .hold (.i v11) (T16.getD 4 undef)), (1600013, .hold (.bo (decide (v11 < 0))) (T16.getD 13 undef)), (1600014, .hold (.fn (.yield b10) [] []) (T16.getD 14 undef)), (1600015, .hold (.l cU a0) (T16.getD 15 undef)), (1600016, .hold (.i s4.1) (T16.getD 16 undef)), (1600017, .hold (.i s4.1) (T16.getD 17 undef)), (1600018, .hold (.i v11) (T16.getD 18 undef)), (1600019, .hold (.i ((w64 (s4.1 + v11)))) (T16.getD 19 undef)), (1600020, .hold (.l cU v14) (T16.getD 20 undef)), (1600021, .hold (.i s4.1) (T16.getD 21 undef)), (1600022, .hold (.i v11) (T16.getD 22 undef)), (1600023, .hold (.i ((w64 (s4.1 + v11)))) (T16.getD 23 undef)), (1600024, .hold (.i ((w64 ((w64 (s4.1 + v11)) + 2)))) (T16.getD 24 undef)), (1099999, .sus g0.w.heap.size ds10), (1099998, .lp b10 ((busy L10))), (1000000, .hold (.l cU a0) (T10.getD 0 undef)), (1000002, .hold (.ptr 2 0) (T10.getD 2 undef)), (1000003, .hold (.ptr 3 0) (T10.getD 3 undef)), (1000004, .hold (.ptr 4 0) (T10.getD 4 undef)), (1000005, .hold (.ptr 5 0) (T10.getD 5 undef)), (1000006, .hold (.ptr 6 0) (T10.getD 6 undef)), (1000007, .hold (.ptr 7 0) (T10.getD 7 undef)), (1000017, .hold (.fn (.func 57) [] [.ptr 1 0]) (T10.getD 17 undef)), (1, .cells [.l cU a0]), (7, .cells [.i ((w64 ((w64 (s4.1 + v11)) + 2)))]), (1006, .row 5 false 1 (List.map cU s4.2.2)), (6, .cells [.hs 1006 0]), (5, .cells [.i 0, .i 0]), (4, .cells [.bo false]), (3, .cells [.i 0]), (2, .cells [.l cU ([])])]), ([true, true, true, true, true, true, false, false], [(6, .ptr 6 0), (8, .l cU v14), (32, .l cU v14), (33, .hs 1033 0), (34, .l cU (([(46 : UInt8)] : List UInt8))), (35, .l cU v22), (36, .hs 1006 0)], [(1699999, .sus g0.w.heap.size ds16), (1600000, .hold (.fn (.yield b10) [] []) (T16.getD 0 undef)), (1600001, .hold (.ptr 1 0) (T16.getD 1 undef)), (1600003, .hold (.i s4.1) (T16.getD 3 undef)), (1600004, .hold (.i v11) (T16.getD 4 undef)), (1600013, .hold (.bo (decide (v11 < 0))) (T16.getD 13 undef)), (1600014, .hold (.fn (.yield b10) [] []) (T16.getD 14 undef)), (1600015, .hold (.l cU a0) (T16.getD 15 undef)), (1600016, .hold (.i s4.1) (T16.getD 16 undef)), (1600017, .hold (.i s4.1) (T16.getD 17 undef)), (1600018, .hold (.i v11) (T16.getD 18 undef)), (1600019, .hold (.i ((w64 (s4.1 + v11)))) (T16.getD 19 undef)), (1600020, .hold (.l cU v14) (T16.getD 20 undef)), (1600021, .hold (.i s4.1) (T16.getD 21 undef)), (1600022, .hold (.i v11) (T16.getD 22 undef)), (1600023, .hold (.i ((w64 (s4.1 + v11)))) (T16.getD 23 undef)), (1600024, .hold (.i ((w64 ((w64 (s4.1 + v11)) + 2)))) (T16.getD 24 undef)), (1099999, .sus g0.w.heap.size ds10), (1099998, .lp b10 ((busy L10))), (1000000, .hold (.l cU a0) (T10.getD 0 undef)), (1000002, .hold (.ptr 2 0) (T10.getD 2 undef)), (1000003, .hold (.ptr 3 0) (T10.getD 3 undef)), (1000004, .hold (.ptr 4 0) (T10.getD 4 undef)), (1000005, .hold (.ptr 5 0) (T10.getD 5 undef)), (1000006, .hold (.ptr 6 0) (T10.getD 6 undef)), (1000007, .hold (.ptr 7 0) (T10.getD 7 undef)), (1000017, .hold (.fn (.func 57) [] [.ptr 1 0]) (T10.getD 17 undef)), (1, .cells [.l cU a0]), (7, .cells [.i ((w64 ((w64 (s4.1 + v11)) + 2)))]), (1006, .row 5 false 1 (List.map cU v24)), (6, .cells [.any]), (5, .cells [.i 0, .i 0]), (4, .cells [.bo false]), (3, .cells [.i 0]), (2, .cells [.l cU ([])])]), ([true, true, true, true, true, true, true, false], [(6, .ptr 6 0), (8, .l cU v14), (32, .l cU v14), (33, .hs 1033 0), (34, .l cU (([(46 : UInt8)] : List UInt8))), (35, .l cU v22), (37, .hs 1006 0)], [(1699999, .sus g0.w.heap.size ds16), (1600000, .hold (.fn (.yield b10) [] []) (T16.getD 0 undef)), (1600001, .hold (.ptr 1 0) (T16.getD 1 undef)), (1600003, .hold (.i s4.1) (T16.getD 3 undef)), (1600004, .hold (.i v11) (T16.getD 4 undef)), (1600013, .hold (.bo (decide (v11 < 0))) (T16.getD 13 undef)), (1600014, .hold (.fn (.yield b10) [] []) (T16.getD 14 undef)), (1600015, .hold (.l cU a0) (T16.getD 15 undef)), (1600016, .hold (.i s4.1) (T16.getD 16 undef)), (1600017, .hold (.i s4.1) (T16.getD 17 undef)), (1600018, .hold (.i v11) (T16.getD 18 undef)), (1600019, .hold (.i ((w64 (s4.1 + v11)))) (T16.getD 19 undef)), (1600020, .hold (.l cU v14) (T16.getD 20 undef)), (1600021, .hold (.i s4.1) (T16.getD 21 undef)), (1600022, .hold (.i v11) (T16.getD 22 undef)), (1600023, .hold (.i ((w64 (s4.1 + v11)))) (T16.getD 23 undef)), (1600024, .hold (.i ((w64 ((w64 (s4.1 + v11)) + 2)))) (T16.getD 24 undef)), (1099999, .sus g0.w.heap.size ds10), (1099998, .lp b10 ((busy L10))), (1000000, .hold (.l cU a0) (T10.getD 0 undef)), (1000002, .hold (.ptr 2 0) (T10.getD 2 undef)), (1000003, .hold (.ptr 3 0) (T10.getD 3 undef)), (1000004, .hold (.ptr 4 0) (T10.getD 4 undef)), (1000005, .hold (.ptr 5 0) (T10.getD 5 undef)), (1000006, .hold (.ptr 6 0) (T10.getD 6 undef)), (1000007, .hold (.ptr 7 0) (T10.getD 7 undef)), (1000017, .hold (.fn (.func 57) [] [.ptr 1 0]) (T10.getD 17 undef)), (1, .cells [.l cU a0]), (7, .cells [.i ((w64 ((w64 (s4.1 + v11)) + 2)))]), (1006, .row 5 false 1 (List.map cU v26)), (6, .cells [.any]), (5, .cells [.i 0, .i 0]), (4, .cells [.bo false]), (3, .cells [.i 0]), (2, .cells [.l cU ([])])]), ([true, true, true, true, true, true, true, true], [(6, .ptr 6 0), (8, .l cU v14), (32, .l cU v14), (33, .hs 1033 0), (34, .l cU (([(46 : UInt8)] : List UInt8))), (35, .l cU v22), (37, .hs 1006 0)], [(1699999, .sus g0.w.heap.size ds16), (1600000, .hold (.fn (.yield b10) [] []) (T16.getD 0 undef)), (1600001, .hold (.ptr 1 0) (T16.getD 1 undef)), (1600003, .hold (.i s4.1) (T16.getD 3 undef)), (1600004, .hold (.i v11) (T16.getD 4 undef)), (1600013, .hold (.bo (decide (v11 < 0))) (T16.getD 13 undef)), (1600014, .hold (.fn (.yield b10) [] []) (T16.getD 14 undef)), (1600015, .hold (.l cU a0) (T16.getD 15 undef)), (1600016, .hold (.i s4.1) (T16.getD 16 undef)), (1600017, .hold (.i s4.1) (T16.getD 17 undef)), (1600018, .hold (.i v11) (T16.getD 18 undef)), (1600019, .hold (.i ((w64 (s4.1 + v11)))) (T16.getD 19 undef)), (1600020, .hold (.l cU v14) (T16.getD 20 undef)), (1600021, .hold (.i s4.1) (T16.getD 21 undef)), (1600022, .hold (.i v11) (T16.getD 22 undef)), (1600023, .hold (.i ((w64 (s4.1 + v11)))) (T16.getD 23 undef)), (1600024, .hold (.i ((w64 ((w64 (s4.1 + v11)) + 2)))) (T16.getD 24 undef)), (1099999, .sus g0.w.heap.size ds10), (1099998, .lp b10 ((busy L10))), (1000000, .hold (.l cU a0) (T10.getD 0 undef)), (1000002, .hold (.ptr 2 0) (T10.getD 2 undef)), (1000003, .hold (.ptr 3 0) (T10.getD 3 undef)), (1000004, .hold (.ptr 4 0) (T10.getD 4 undef)), (1000005, .hold (.ptr 5 0) (T10.getD 5 undef)), (1000006, .hold (.ptr 6 0) (T10.getD 6 undef)), (1000007, .hold (.ptr 7 0) (T10.getD 7 undef)), (1000017, .hold (.fn (.func 57) [] [.ptr 1 0]) (T10.getD 17 undef)), (1, .cells [.l cU a0]), (7, .cells [.i ((w64 ((w64 (s4.1 + v11)) + 2)))]), (1006, .row 5 false 1 (List.map cU v26)), (6, .cells [.hs 1006 0]), (5, .cells [.i 0, .i 0]), (4, .cells [.bo false]), (3, .cells [.i 0]), (2, .cells [.l cU ([])])])] mixed (by kernel_rfl) rfl rfl (frLe_cons rfl (frLe_cons rfl frLe_nil)) (stoLe_cons rfl (stoLe_cons rfl (stoLe_cons rfl (stoLe_cons rfl (stoLe_cons rfl (stoLe_cons rfl (stoLe_cons rfl (stoLe_cons rfl (stoLe_cons rfl (stoLe_cons rfl (stoLe_cons rfl (stoLe_cons rfl (stoLe_cons rfl (stoLe_cons rfl (stoLe_cons rfl (stoLe_cons rfl (stoLe_cons rfl (stoLe_cons rfl (stoLe_cons rfl (stoLe_cons rfl (stoLe_cons rfl (stoLe_cons rfl (stoLe_cons rfl (stoLe_cons rfl (stoLe_cons rfl (stoLe_cons rfl (stoLe_cons rfl (stoLe_cons rfl (stoLe_cons rfl (stoLe_cons rfl (stoLe_cons rfl (stoLe_cons rfl (stoLe_cons rfl (stoLe_cons rfl (stoLe_cons rfl stoLe_nil))))))))))))))))))))))))))))))))))) (.cons (.step [0, 1, 2] (by kernel_rfl) rfl (.cons (.yes 1 rfl (wanted_plain rfl) (opTo_q (d := 31) rfl rfl (ev_load rfl rfl ty_s_uint8 rfl rfl)) rfl (frLe_cons rfl (frLe_cons rfl (frLe_cons rfl frLe_nil))) (stoLe_cons rfl (stoLe_cons rfl (stoLe_cons rfl (stoLe_cons rfl (stoLe_cons rfl (stoLe_cons rfl (stoLe_cons rfl (stoLe_cons rfl (stoLe_cons rfl (stoLe_cons rfl (stoLe_cons rfl (stoLe_cons rfl (stoLe_cons rfl (stoLe_cons rfl (stoLe_cons rfl (stoLe_cons rfl (stoLe_cons rfl (stoLe_cons rfl (stoLe_cons rfl (stoLe_cons rfl (stoLe_cons rfl (stoLe_cons rfl (stoLe_cons rfl (stoLe_cons rfl (stoLe_cons rfl (stoLe_cons rfl (stoLe_cons rfl (stoLe_cons rfl (stoLe_cons rfl (stoLe_cons rfl (stoLe_cons rfl (stoLe_cons rfl (stoLe_cons rfl (stoLe_cons rfl (stoLe_cons rfl stoLe_nil)))))))))))))))))))))))))))))))))))) (.cons (.yes 2 rfl (wanted_plain rfl) (opTo_q (d := 32) rfl rfl ev_move) rfl (frLe_cons rfl (frLe_cons rfl (frLe_cons rfl frLe_nil))) (stoLe_cons rfl (stoLe_cons rfl (stoLe_cons rfl (stoLe_cons rfl (stoLe_cons rfl (stoLe_cons rfl (stoLe_cons rfl (stoLe_cons rfl (stoLe_cons rfl (stoLe_cons rfl (stoLe_cons rfl (stoLe_cons rfl (stoLe_cons rfl (stoLe_cons rfl (stoLe_cons rfl (stoLe_cons rfl (stoLe_cons rfl (stoLe_cons rfl (stoLe_cons rfl (stoLe_cons rfl (stoLe_cons rfl (stoLe_cons rfl (stoLe_cons rfl (stoLe_cons rfl (stoLe_cons rfl (stoLe_cons rfl (stoLe_cons rfl (stoLe_cons rfl (stoLe_cons rfl (stoLe_cons rfl (stoLe_cons rfl (stoLe_cons rfl (stoLe_cons rfl (stoLe_cons rfl (stoLe_cons rfl stoLe_nil)))))))))))))))))))))))))))))))))))) (.cons (.yes 3 rfl (wanted_plain rfl) (opTo_litrow (k := 33) (F := cU) (l := ([(46 : UInt8)] : List UInt8)) 1033 rfl rfl rfl ty_s_uint8 ty_uint8 rfl (fun _ => rfl) rfl rfl) rfl (frLe_cons rfl (frLe_cons rfl (frLe_cons rfl frLe_nil))) (stoLe_cons rfl (stoLe_cons rfl (stoLe_cons rfl (stoLe_cons rfl (stoLe_cons rfl (stoLe_cons rfl (stoLe_cons rfl (stoLe_cons rfl (stoLe_cons rfl (stoLe_cons rfl (stoLe_cons rfl (stoLe_cons rfl (stoLe_cons rfl (stoLe_cons rfl (stoLe_cons rfl (stoLe_cons rfl (stoLe_cons rfl (stoLe_cons rfl (stoLe_cons rfl (stoLe_cons rfl (stoLe_cons rfl (stoLe_cons rfl (stoLe_cons rfl (stoLe_cons rfl (stoLe_cons rfl (stoLe_cons rfl (stoLe_cons rfl (stoLe_cons rfl (stoLe_cons rfl (stoLe_cons rfl (stoLe_cons rfl (stoLe_cons rfl (stoLe_cons rfl (stoLe_cons rfl (stoLe_cons rfl (stoLe_cons rfl stoLe_nil))))))))))))))))))))))))))))))))))))) .nil)))) (.cons (.step [1, 2] (by kernel_rfl) rfl (.cons (.yes 4 rfl (wanted_plain rfl) (opTo_q (d := 32) rfl rfl ev_move) rfl (frLe_cons rfl (frLe_cons rfl (frLe_cons rfl (frLe_cons rfl frLe_nil)))) (stoLe_cons rfl (stoLe_cons rfl (stoLe_cons rfl (stoLe_cons rfl (stoLe_cons rfl (stoLe_cons rfl (stoLe_cons rfl (stoLe_cons rfl (stoLe_cons rfl (stoLe_cons rfl (stoLe_cons rfl (stoLe_cons rfl (stoLe_cons rfl (stoLe_cons rfl (stoLe_cons rfl (stoLe_cons rfl (stoLe_cons rfl (stoLe_cons rfl (stoLe_cons rfl (stoLe_cons rfl (stoLe_cons rfl (stoLe_cons rfl (stoLe_cons rfl (stoLe_cons rfl (stoLe_cons rfl (stoLe_cons rfl (stoLe_cons rfl (stoLe_cons rfl (stoLe_cons rfl (stoLe_cons rfl (stoLe_cons rfl (stoLe_cons rfl (stoLe_cons rfl (stoLe_cons rfl (stoLe_cons rfl stoLe_nil)))))))))))))))))))))))))))))))))))) (.cons (.yes 5 rfl (wanted_plain rfl) (opTo_litrow (k := 33) (F := cU) (l := ([(46 : UInt8)] : List UInt8)) 1033 rfl rfl rfl ty_s_uint8 ty_uint8 rfl (fun _ => rfl) rfl rfl) rfl (frLe_cons rfl (frLe_cons rfl (frLe_cons rfl (frLe_cons rfl frLe_nil)))) (stoLe_cons rfl (stoLe_cons rfl (stoLe_cons rfl (stoLe_cons rfl (stoLe_cons rfl (stoLe_cons rfl (stoLe_cons rfl (stoLe_cons rfl (stoLe_cons rfl (stoLe_cons rfl (stoLe_cons rfl (stoLe_cons rfl (stoLe_cons rfl (stoLe_cons rfl (stoLe_cons rfl (stoLe_cons rfl (stoLe_cons rfl (stoLe_cons rfl (stoLe_cons rfl (stoLe_cons rfl (stoLe_cons rfl (stoLe_cons rfl (stoLe_cons rfl (stoLe_cons rfl (stoLe_cons rfl (stoLe_cons rfl (stoLe_cons rfl (stoLe_cons rfl (stoLe_cons rfl (stoLe_cons rfl (stoLe_cons rfl (stoLe_cons rfl (stoLe_cons rfl (stoLe_cons rfl (stoLe_cons rfl (stoLe_cons rfl stoLe_nil))))))))))))))))))))))))))))))))))))) .nil))) (.cons (.step [0, 2] (by kernel_rfl) rfl (.cons (.yes 4 rfl (wanted_plain rfl) (opTo_q (d := 31) rfl rfl (ev_load rfl rfl ty_s_uint8 rfl rfl)) rfl (frLe_cons rfl (frLe_cons rfl (frLe_cons rfl (frLe_cons rfl frLe_nil)))) (stoLe_cons rfl (stoLe_cons rfl (stoLe_cons rfl (stoLe_cons rfl (stoLe_cons rfl (stoLe_cons rfl (stoLe_cons rfl (stoLe_cons rfl (stoLe_cons rfl (stoLe_cons rfl (stoLe_cons rfl (stoLe_cons rfl (stoLe_cons rfl (stoLe_cons rfl (stoLe_cons rfl (stoLe_cons rfl (stoLe_cons rfl (stoLe_cons rfl (stoLe_cons rfl (stoLe_cons rfl (stoLe_cons rfl (stoLe_cons rfl (stoLe_cons rfl (stoLe_cons rfl (stoLe_cons rfl (stoLe_cons rfl (stoLe_cons rfl (stoLe_cons rfl (stoLe_cons rfl (stoLe_cons rfl (stoLe_cons rfl (stoLe_cons rfl (stoLe_cons rfl (stoLe_cons rfl (stoLe_cons rfl stoLe_nil)))))))))))))))))))))))))))))))))))) (.cons (.yes 6 rfl (wanted_plain rfl) (opTo_litrow (k := 33) (F := cU) (l := ([(46 : UInt8)] : List UInt8)) 1033 rfl rfl rfl ty_s_uint8 ty_uint8 rfl (fun _ => rfl) rfl rfl) rfl (frLe_cons rfl (frLe_cons rfl (frLe_cons rfl (frLe_cons rfl frLe_nil)))) (stoLe_cons rfl (stoLe_cons rfl (stoLe_cons rfl (stoLe_cons rfl (stoLe_cons rfl (stoLe_cons rfl (stoLe_cons rfl (stoLe_cons rfl (stoLe_cons rfl (stoLe_cons rfl (stoLe_cons rfl (stoLe_cons rfl (stoLe_cons rfl (stoLe_cons rfl (stoLe_cons rfl (stoLe_cons rfl (stoLe_cons rfl (stoLe_cons rfl (stoLe_cons rfl (stoLe_cons rfl (stoLe_cons rfl (stoLe_cons rfl (stoLe_cons rfl (stoLe_cons rfl (stoLe_cons rfl (stoLe_cons rfl (stoLe_cons rfl (stoLe_cons rfl (stoLe_cons rfl (stoLe_cons rfl (stoLe_cons rfl (stoLe_cons rfl (stoLe_cons rfl (stoLe_cons rfl (stoLe_cons rfl (stoLe_cons rfl stoLe_nil))))))))))))))))))))))))))))))))))))) .nil))) (.cons (.step [0, 1, 3] (by kernel_rfl) rfl (.cons (.yes 5 rfl (wanted_plain rfl) (opTo_q (d := 31) rfl rfl (ev_load rfl rfl ty_s_uint8 rfl rfl)) rfl (frLe_cons rfl (frLe_cons rfl (frLe_cons rfl (frLe_cons rfl frLe_nil)))) (stoLe_cons rfl (stoLe_cons rfl (stoLe_cons rfl (stoLe_cons rfl (stoLe_cons rfl (stoLe_cons rfl (stoLe_cons rfl (stoLe_cons rfl (stoLe_cons rfl (stoLe_cons rfl (stoLe_cons rfl (stoLe_cons rfl (stoLe_cons rfl (stoLe_cons rfl (stoLe_cons rfl (stoLe_cons rfl (stoLe_cons rfl (stoLe_cons rfl (stoLe_cons rfl (stoLe_cons rfl (stoLe_cons rfl (stoLe_cons rfl (stoLe_cons rfl (stoLe_cons rfl (stoLe_cons rfl (stoLe_cons rfl (stoLe_cons rfl (stoLe_cons rfl (stoLe_cons rfl (stoLe_cons rfl (stoLe_cons rfl (stoLe_cons rfl (stoLe_cons rfl (stoLe_cons rfl (stoLe_cons rfl (stoLe_cons rfl stoLe_nil))))))))))))))))))))))))))))))))))))) (.cons (.yes 6 rfl (wanted_plain rfl) (opTo_q (d := 32) rfl rfl ev_move) rfl (frLe_cons rfl (frLe_cons rfl (frLe_cons rfl (frLe_cons rfl frLe_nil)))) (stoLe_cons rfl (stoLe_cons rfl (stoLe_cons rfl (stoLe_cons rfl (stoLe_cons rfl (stoLe_cons rfl (stoLe_cons rfl (stoLe_cons rfl (stoLe_cons rfl (stoLe_cons rfl (stoLe_cons rfl (stoLe_cons rfl (stoLe_cons rfl (stoLe_cons rfl (stoLe_cons rfl (stoLe_cons rfl (stoLe_cons rfl (stoLe_cons rfl (stoLe_cons rfl (stoLe_cons rfl (stoLe_cons rfl (stoLe_cons rfl (stoLe_cons rfl (stoLe_cons rfl (stoLe_cons rfl (stoLe_cons rfl (stoLe_cons rfl (stoLe_cons rfl (stoLe_cons rfl (stoLe_cons rfl (stoLe_cons rfl (stoLe_cons rfl (stoLe_cons rfl (stoLe_cons rfl (stoLe_cons rfl (stoLe_cons rfl stoLe_nil))))))))))))))))))))))))))))))))))))) (.cons (.yes 7 rfl (wanted_plain rfl) (opTo_convrow (l := ([(46 : UInt8)] : List UInt8)) rfl rfl rfl ty_s_uint8 ty_uint8 rfl) rfl (frLe_cons rfl (frLe_cons rfl (frLe_cons rfl (frLe_cons rfl frLe_nil)))) (stoLe_cons rfl (stoLe_cons rfl (stoLe_cons rfl (stoLe_cons rfl (stoLe_cons rfl (stoLe_cons rfl (stoLe_cons rfl (stoLe_cons rfl (stoLe_cons rfl (stoLe_cons rfl (stoLe_cons rfl (stoLe_cons rfl (stoLe_cons rfl (stoLe_cons rfl (stoLe_cons rfl (stoLe_cons rfl (stoLe_cons rfl (stoLe_cons rfl (stoLe_cons rfl (stoLe_cons rfl (stoLe_cons rfl (stoLe_cons rfl (stoLe_cons rfl (stoLe_cons rfl (stoLe_cons rfl (stoLe_cons rfl (stoLe_cons rfl (stoLe_cons rfl (stoLe_cons rfl (stoLe_cons rfl (stoLe_cons rfl (stoLe_cons rfl (stoLe_cons rfl (stoLe_cons rfl (stoLe_cons rfl stoLe_nil)))))))))))))))))))))))))))))))))))) .nil)))) (.cons (.step [2] (by kernel_rfl) rfl (.cons (.yes 8 rfl (wanted_plain rfl) (opTo_litrow (k := 33) (F := cU) (l := ([(46 : UInt8)] : List UInt8)) 1033 rfl rfl rfl ty_s_uint8 ty_uint8 rfl (fun _ => rfl) rfl rfl) rfl (frLe_cons rfl (frLe_cons rfl (frLe_cons rfl (frLe_cons rfl (frLe_cons rfl frLe_nil))))) (stoLe_cons rfl (stoLe_cons rfl (stoLe_cons rfl (stoLe_cons rfl (stoLe_cons rfl (stoLe_cons rfl (stoLe_cons rfl (stoLe_cons rfl (stoLe_cons rfl (stoLe_cons rfl (stoLe_cons rfl (stoLe_cons rfl (stoLe_cons rfl (stoLe_cons rfl (stoLe_cons rfl (stoLe_cons rfl (stoLe_cons rfl (stoLe_cons rfl (stoLe_cons rfl (stoLe_cons rfl (stoLe_cons rfl (stoLe_cons rfl (stoLe_cons rfl (stoLe_cons rfl (stoLe_cons rfl (stoLe_cons rfl (stoLe_cons rfl (stoLe_cons rfl (stoLe_cons rfl (stoLe_cons rfl (stoLe_cons rfl (stoLe_cons rfl (stoLe_cons rfl (stoLe_cons rfl (stoLe_cons rfl (stoLe_cons rfl stoLe_nil))))))))))))))))))))))))))))))))))))) .nil)) (.cons (.step [1, 3] (by kernel_rfl) rfl (.cons (.yes 8 rfl (wanted_plain rfl) (opTo_q (d := 32) rfl rfl ev_move) rfl (frLe_cons rfl (frLe_cons rfl (frLe_cons rfl (frLe_cons rfl (frLe_cons rfl frLe_nil))))) (stoLe_cons rfl (stoLe_cons rfl (stoLe_cons rfl (stoLe_cons rfl (stoLe_cons rfl (stoLe_cons rfl (stoLe_cons rfl (stoLe_cons rfl (stoLe_cons rfl (stoLe_cons rfl (stoLe_cons rfl (stoLe_cons rfl (stoLe_cons rfl (stoLe_cons rfl (stoLe_cons rfl (stoLe_cons rfl (stoLe_cons rfl (stoLe_cons rfl (stoLe_cons rfl (stoLe_cons rfl (stoLe_cons rfl (stoLe_cons rfl (stoLe_cons rfl (stoLe_cons rfl (stoLe_cons rfl (stoLe_cons rfl (stoLe_cons rfl (stoLe_cons rfl (stoLe_cons rfl (stoLe_cons rfl (stoLe_cons rfl (stoLe_cons rfl (stoLe_cons rfl (stoLe_cons rfl (stoLe_cons rfl (stoLe_cons rfl stoLe_nil))))))))))))))))))))))))))))))))))))) (.cons (.yes 9 rfl (wanted_plain rfl) (opTo_convrow (l := ([(46 : UInt8)] : List UInt8)) rfl rfl rfl ty_s_uint8 ty_uint8 rfl) rfl (frLe_cons rfl (frLe_cons rfl (frLe_cons rfl (frLe_cons rfl (frLe_cons rfl frLe_nil))))) (stoLe_cons rfl (stoLe_cons rfl (stoLe_cons rfl (stoLe_cons rfl (stoLe_cons rfl (stoLe_cons rfl (stoLe_cons rfl (stoLe_cons rfl (stoLe_cons rfl (stoLe_cons rfl (stoLe_cons rfl (stoLe_cons rfl (stoLe_cons rfl (stoLe_cons rfl (stoLe_cons rfl (stoLe_cons rfl (stoLe_cons rfl (stoLe_cons rfl (stoLe_cons rfl (stoLe_cons rfl (stoLe_cons rfl (stoLe_cons rfl (stoLe_cons rfl (stoLe_cons rfl (stoLe_cons rfl (stoLe_cons rfl (stoLe_cons rfl (stoLe_cons rfl (stoLe_cons rfl (stoLe_cons rfl (stoLe_cons rfl (stoLe_cons rfl (stoLe_cons rfl (stoLe_cons rfl (stoLe_cons rfl stoLe_nil)))))))))))))))))))))))))))))))))))) .nil))) (.cons (.step [0, 3] (by kernel_rfl) rfl (.cons (.yes 8 rfl (wanted_plain rfl) (opTo_q (d := 31) rfl rfl (ev_load rfl rfl ty_s_uint8 rfl rfl)) rfl (frLe_cons rfl (frLe_cons rfl (frLe_cons rfl (frLe_cons rfl (frLe_cons rfl frLe_nil))))) (stoLe_cons rfl (stoLe_cons rfl (stoLe_cons rfl (stoLe_cons rfl (stoLe_cons rfl (stoLe_cons rfl (stoLe_cons rfl (stoLe_cons rfl (stoLe_cons rfl (stoLe_cons rfl (stoLe_cons rfl (stoLe_cons rfl (stoLe_cons rfl (stoLe_cons rfl (stoLe_cons rfl (stoLe_cons rfl (stoLe_cons rfl (stoLe_cons rfl (stoLe_cons rfl (stoLe_cons rfl (stoLe_cons rfl (stoLe_cons rfl (stoLe_cons rfl (stoLe_cons rfl (stoLe_cons rfl (stoLe_cons rfl (stoLe_cons rfl (stoLe_cons rfl (stoLe_cons rfl (stoLe_cons rfl (stoLe_cons rfl (stoLe_cons rfl (stoLe_cons rfl (stoLe_cons rfl (stoLe_cons rfl (stoLe_cons rfl stoLe_nil))))))))))))))))))))))))))))))))))))) (.cons (.yes 10 rfl (wanted_plain rfl) (opTo_convrow (l := ([(46 : UInt8)] : List UInt8)) rfl rfl rfl ty_s_uint8 ty_uint8 rfl) rfl (frLe_cons rfl (frLe_cons rfl (frLe_cons rfl (frLe_cons rfl (frLe_cons rfl frLe_nil))))) (stoLe_cons rfl (stoLe_cons rfl (stoLe_cons rfl (stoLe_cons rfl (stoLe_cons rfl (stoLe_cons rfl (stoLe_cons rfl (stoLe_cons rfl (stoLe_cons rfl (stoLe_cons rfl (stoLe_cons rfl (stoLe_cons rfl (stoLe_cons rfl (stoLe_cons rfl (stoLe_cons rfl (stoLe_cons rfl (stoLe_cons rfl (stoLe_cons rfl (stoLe_cons rfl (stoLe_cons rfl (stoLe_cons rfl (stoLe_cons rfl (stoLe_cons rfl (stoLe_cons rfl (stoLe_cons rfl (stoLe_cons rfl (stoLe_cons rfl (stoLe_cons rfl (stoLe_cons rfl (stoLe_cons rfl (stoLe_cons rfl (stoLe_cons rfl (stoLe_cons rfl (stoLe_cons rfl (stoLe_cons rfl stoLe_nil)))))))))))))))))))))))))))))))))))) .nil))) (.cons (.step [0, 1] (by kernel_rfl) rfl (.cons (.yes 9 rfl (wanted_plain rfl) (opTo_q (d := 31) rfl rfl (ev_load rfl rfl ty_s_uint8 rfl rfl)) rfl (frLe_cons rfl (frLe_cons rfl (frLe_cons rfl (frLe_cons rfl (frLe_cons rfl frLe_nil))))) (stoLe_cons rfl (stoLe_cons rfl (stoLe_cons rfl (stoLe_cons rfl (stoLe_cons rfl (stoLe_cons rfl (stoLe_cons rfl (stoLe_cons rfl (stoLe_cons rfl (stoLe_cons rfl (stoLe_cons rfl (stoLe_cons rfl (stoLe_cons rfl (stoLe_cons rfl (stoLe_cons rfl (stoLe_cons rfl (stoLe_cons rfl (stoLe_cons rfl (stoLe_cons rfl (stoLe_cons rfl (stoLe_cons rfl (stoLe_cons rfl (stoLe_cons rfl (stoLe_cons rfl (stoLe_cons rfl (stoLe_cons rfl (stoLe_cons rfl (stoLe_cons rfl (stoLe_cons rfl (stoLe_cons rfl (stoLe_cons rfl (stoLe_cons rfl (stoLe_cons rfl (stoLe_cons rfl (stoLe_cons rfl stoLe_nil)))))))))))))))))))))))))))))))))))) (.cons (.yes 10 rfl (wanted_plain rfl) (opTo_q (d := 32) rfl rfl ev_move) rfl (frLe_cons rfl (frLe_cons rfl (frLe_cons rfl (frLe_cons rfl (frLe_cons rfl frLe_nil))))) (stoLe_cons rfl (stoLe_cons rfl (stoLe_cons rfl (stoLe_cons rfl (stoLe_cons rfl (stoLe_cons rfl (stoLe_cons rfl (stoLe_cons rfl (stoLe_cons rfl (stoLe_cons rfl (stoLe_cons rfl (stoLe_cons rfl (stoLe_cons rfl (stoLe_cons rfl (stoLe_cons rfl (stoLe_cons rfl (stoLe_cons rfl (stoLe_cons rfl (stoLe_cons rfl (stoLe_cons rfl (stoLe_cons rfl (stoLe_cons rfl (stoLe_cons rfl (stoLe_cons rfl (stoLe_cons rfl (stoLe_cons rfl (stoLe_cons rfl (stoLe_cons rfl (stoLe_cons rfl (stoLe_cons rfl (stoLe_cons rfl (stoLe_cons rfl (stoLe_cons rfl (stoLe_cons rfl (stoLe_cons rfl stoLe_nil)))))))))))))))))))))))))))))))))))) .nil))) (.cons (.step [3] (by kernel_rfl) rfl (.cons (.yes 11 rfl (wanted_plain rfl) (opTo_convrow (l := ([(46 : UInt8)] : List UInt8)) rfl rfl rfl ty_s_uint8 ty_uint8 rfl) rfl (frLe_cons rfl (frLe_cons rfl (frLe_cons rfl (frLe_cons rfl (frLe_cons rfl (frLe_cons rfl frLe_nil)))))) (stoLe_cons rfl (stoLe_cons rfl (stoLe_cons rfl (stoLe_cons rfl (stoLe_cons rfl (stoLe_cons rfl (stoLe_cons rfl (stoLe_cons rfl (stoLe_cons rfl (stoLe_cons rfl (stoLe_cons rfl (stoLe_cons rfl (stoLe_cons rfl (stoLe_cons rfl (stoLe_cons rfl (stoLe_cons rfl (stoLe_cons rfl (stoLe_cons rfl (stoLe_cons rfl (stoLe_cons rfl (stoLe_cons rfl (stoLe_cons rfl (stoLe_cons rfl (stoLe_cons rfl (stoLe_cons rfl (stoLe_cons rfl (stoLe_cons rfl (stoLe_cons rfl (stoLe_cons rfl (stoLe_cons rfl (stoLe_cons rfl (stoLe_cons rfl (stoLe_cons rfl (stoLe_cons rfl (stoLe_cons rfl stoLe_nil)))))))))))))))))))))))))))))))))))) .nil)) (.cons (.step [1] (by kernel_rfl) rfl (.cons (.yes 11 rfl (wanted_plain rfl) (opTo_q (d := 32) rfl rfl ev_move) rfl (frLe_cons rfl (frLe_cons rfl (frLe_cons rfl (frLe_cons rfl (frLe_cons rfl (frLe_cons rfl frLe_nil)))))) (stoLe_cons rfl (stoLe_cons rfl (stoLe_cons rfl (stoLe_cons rfl (stoLe_cons rfl (stoLe_cons rfl (stoLe_cons rfl (stoLe_cons rfl (stoLe_cons rfl (stoLe_cons rfl (stoLe_cons rfl (stoLe_cons rfl (stoLe_cons rfl (stoLe_cons rfl (stoLe_cons rfl (stoLe_cons rfl (stoLe_cons rfl (stoLe_cons rfl (stoLe_cons rfl (stoLe_cons rfl (stoLe_cons rfl (stoLe_cons rfl (stoLe_cons rfl (stoLe_cons rfl (stoLe_cons rfl (stoLe_cons rfl (stoLe_cons rfl (stoLe_cons rfl (stoLe_cons rfl (stoLe_cons rfl (stoLe_cons rfl (stoLe_cons rfl (stoLe_cons rfl (stoLe_cons rfl (stoLe_cons rfl stoLe_nil)))))))))))))))))))))))))))))))))))) .nil)) (.cons (.step [0, 4] (by kernel_rfl) rfl (.cons (.yes 11 rfl (wanted_plain rfl) (opTo_q (d := 31) rfl rfl (ev_load rfl rfl ty_s_uint8 rfl rfl)) rfl (frLe_cons rfl (frLe_cons rfl (frLe_cons rfl (frLe_cons rfl (frLe_cons rfl (frLe_cons rfl frLe_nil)))))) (stoLe_cons rfl (stoLe_cons rfl (stoLe_cons rfl (stoLe_cons rfl (stoLe_cons rfl (stoLe_cons rfl (stoLe_cons rfl (stoLe_cons rfl (stoLe_cons rfl (stoLe_cons rfl (stoLe_cons rfl (stoLe_cons rfl (stoLe_cons rfl (stoLe_cons rfl (stoLe_cons rfl (stoLe_cons rfl (stoLe_cons rfl (stoLe_cons rfl (stoLe_cons rfl (stoLe_cons rfl (stoLe_cons rfl (stoLe_cons rfl (stoLe_cons rfl (stoLe_cons rfl (stoLe_cons rfl (stoLe_cons rfl (stoLe_cons rfl (stoLe_cons rfl (stoLe_cons rfl (stoLe_cons rfl (stoLe_cons rfl (stoLe_cons rfl (stoLe_cons rfl (stoLe_cons rfl (stoLe_cons rfl stoLe_nil)))))))))))))))))))))))))))))))))))) (.cons (.yes 12 rfl (wanted_plain rfl) (opTo_call (k := 35) (bytes_TrimPrefix_run v14 (([(46 : UInt8)] : List UInt8)) v22 h23) rfl rfl) rfl (frLe_cons rfl (frLe_cons rfl (frLe_cons rfl (frLe_cons rfl (frLe_cons rfl (frLe_cons rfl frLe_nil)))))) (stoLe_cons rfl (stoLe_cons rfl (stoLe_cons rfl (stoLe_cons rfl (stoLe_cons rfl (stoLe_cons rfl (stoLe_cons rfl (stoLe_cons rfl (stoLe_cons rfl (stoLe_cons rfl (stoLe_cons rfl (stoLe_cons rfl (stoLe_cons rfl (stoLe_cons rfl (stoLe_cons rfl (stoLe_cons rfl (stoLe_cons rfl (stoLe_cons rfl (stoLe_cons rfl (stoLe_cons rfl (stoLe_cons rfl (stoLe_cons rfl (stoLe_cons rfl (stoLe_cons rfl (stoLe_cons rfl (stoLe_cons rfl (stoLe_cons rfl (stoLe_cons rfl (stoLe_cons rfl (stoLe_cons rfl (stoLe_cons rfl (stoLe_cons rfl (stoLe_cons rfl (stoLe_cons rfl (stoLe_cons rfl stoLe_nil)))))))))))))))))))))))))))))))))))) .nil))) (.cons (.step [4] (by kernel_rfl) rfl (.cons (.yes 13 rfl (wanted_plain rfl) (opTo_call (k := 35) (bytes_TrimPrefix_run v14 (([(46 : UInt8)] : List UInt8)) v22 h23) rfl rfl) rfl (frLe_cons rfl (frLe_cons rfl (frLe_cons rfl (frLe_cons rfl (frLe_cons rfl (frLe_cons rfl (frLe_cons rfl frLe_nil))))))) (stoLe_cons rfl (stoLe_cons rfl (stoLe_cons rfl (stoLe_cons rfl (stoLe_cons rfl (stoLe_cons rfl (stoLe_cons rfl (stoLe_cons rfl (stoLe_cons rfl (stoLe_cons rfl (stoLe_cons rfl (stoLe_cons rfl (stoLe_cons rfl (stoLe_cons rfl (stoLe_cons rfl (stoLe_cons rfl (stoLe_cons rfl (stoLe_cons rfl (stoLe_cons rfl (stoLe_cons rfl (stoLe_cons rfl (stoLe_cons rfl (stoLe_cons rfl (stoLe_cons rfl (stoLe_cons rfl (stoLe_cons rfl (stoLe_cons rfl (stoLe_cons rfl (stoLe_cons rfl (stoLe_cons rfl (stoLe_cons rfl (stoLe_cons rfl (stoLe_cons rfl (stoLe_cons rfl (stoLe_cons rfl stoLe_nil)))))))))))))))))))))))))))))))))))) .nil)) (.cons (.step [0] (by kernel_rfl) rfl (.cons (.yes 13 rfl (wanted_plain rfl) (opTo_q (d := 31) rfl rfl (ev_load rfl rfl ty_s_uint8 rfl rfl)) rfl (frLe_cons rfl (frLe_cons rfl (frLe_cons rfl (frLe_cons rfl (frLe_cons rfl (frLe_cons rfl (frLe_cons rfl frLe_nil))))))) (stoLe_cons rfl (stoLe_cons rfl (stoLe_cons rfl (stoLe_cons rfl (stoLe_cons rfl (stoLe_cons rfl (stoLe_cons rfl (stoLe_cons rfl (stoLe_cons rfl (stoLe_cons rfl (stoLe_cons rfl (stoLe_cons rfl (stoLe_cons rfl (stoLe_cons rfl (stoLe_cons rfl (stoLe_cons rfl (stoLe_cons rfl (stoLe_cons rfl (stoLe_cons rfl (stoLe_cons rfl (stoLe_cons rfl (stoLe_cons rfl (stoLe_cons rfl (stoLe_cons rfl (stoLe_cons rfl (stoLe_cons rfl (stoLe_cons rfl (stoLe_cons rfl (stoLe_cons rfl (stoLe_cons rfl (stoLe_cons rfl (stoLe_cons rfl (stoLe_cons rfl (stoLe_cons rfl (stoLe_cons rfl stoLe_nil)))))))))))))))))))))))))))))))))))) .nil)) (.cons (.step [5] (by kernel_rfl) rfl (.cons (.yes 14 rfl (wanted_plain rfl) (opTo_append (k := 36) (F := cU) (l := s4.2.2) (xs := v22) (lim := 140737488355328) rfl rfl rfl rfl ty_s_uint8 ty_uint8 rfl rfl (fun _ => rfl) rfl h25) rfl (frLe_cons rfl (frLe_cons rfl (frLe_cons rfl (frLe_cons rfl (frLe_cons rfl (frLe_cons rfl (frLe_cons rfl frLe_nil))))))) (stoLe_cons rfl (stoLe_cons rfl (stoLe_cons rfl (stoLe_cons rfl (stoLe_cons rfl (stoLe_cons rfl (stoLe_cons rfl (stoLe_cons rfl (stoLe_cons rfl (stoLe_cons rfl (stoLe_cons rfl (stoLe_cons rfl (stoLe_cons rfl (stoLe_cons rfl (stoLe_cons rfl (stoLe_cons rfl (stoLe_cons rfl (stoLe_cons rfl (stoLe_cons rfl (stoLe_cons rfl (stoLe_cons rfl (stoLe_cons rfl (stoLe_cons rfl (stoLe_cons rfl (stoLe_cons rfl (stoLe_cons rfl (stoLe_cons rfl (stoLe_cons rfl (stoLe_cons rfl (stoLe_cons rfl (stoLe_cons rfl (stoLe_cons rfl (stoLe_cons rfl (stoLe_cons rfl (stoLe_cons rfl stoLe_nil)))))))))))))))))))))))))))))))))))) .nil)) (.cons (.step [6] (by kernel_rfl) rfl (.cons (.yes 15 rfl (wanted_plain rfl) (opTo_appends (k := 37) (l := v24) (s := (([13, 10] : Str))) (lim := 140737488355328) rfl rfl rfl rfl ty_s_uint8 ty_string.u ty_uint8 rfl h27) rfl (frLe_cons rfl (frLe_cons rfl (frLe_cons rfl (frLe_cons rfl (frLe_cons rfl (frLe_cons rfl (frLe_cons rfl frLe_nil))))))) (stoLe_cons rfl (stoLe_cons rfl (stoLe_cons rfl (stoLe_cons rfl (stoLe_cons rfl (stoLe_cons rfl (stoLe_cons rfl (stoLe_cons rfl (stoLe_cons rfl (stoLe_cons rfl (stoLe_cons rfl (stoLe_cons rfl (stoLe_cons rfl (stoLe_cons rfl (stoLe_cons rfl (stoLe_cons rfl (stoLe_cons rfl (stoLe_cons rfl (stoLe_cons rfl (stoLe_cons rfl (stoLe_cons rfl (stoLe_cons rfl (stoLe_cons rfl (stoLe_cons rfl (stoLe_cons rfl (stoLe_cons rfl (stoLe_cons rfl (stoLe_cons rfl (stoLe_cons rfl (stoLe_cons rfl (stoLe_cons rfl (stoLe_cons rfl (stoLe_cons rfl (stoLe_cons rfl (stoLe_cons rfl stoLe_nil)))))))))))))))))))))))))))))))))))) .nil)) (.cons (.step [7] (by kernel_rfl) rfl (.cons (.yes 16 rfl (wanted_plain rfl) (opTo_store rfl rfl rfl ty_s_uint8 rfl rfl) rfl (frLe_cons rfl (frLe_cons rfl (frLe_cons rfl (frLe_cons rfl (frLe_cons rfl (frLe_cons rfl (frLe_cons rfl frLe_nil))))))) (stoLe_cons rfl (stoLe_cons rfl (stoLe_cons rfl (stoLe_cons rfl (stoLe_cons rfl (stoLe_cons rfl (stoLe_cons rfl (stoLe_cons rfl (stoLe_cons rfl (stoLe_cons rfl (stoLe_cons rfl (stoLe_cons rfl (stoLe_cons rfl (stoLe_cons rfl (stoLe_cons rfl (stoLe_cons rfl (stoLe_cons rfl (stoLe_cons rfl (stoLe_cons rfl (stoLe_cons rfl (stoLe_cons rfl (stoLe_cons rfl (stoLe_cons rfl (stoLe_cons rfl (stoLe_cons rfl (stoLe_cons rfl (stoLe_cons rfl (stoLe_cons rfl (stoLe_cons rfl (stoLe_cons rfl (stoLe_cons rfl (stoLe_cons rfl (stoLe_cons rfl (stoLe_cons rfl (stoLe_cons rfl stoLe_nil)))))))))))))))))))))))))))))))))))) .nil)) (.cons (.full (by kernel_rfl) ?_) .nil)))))))))))))))))
          refine kblock_normal ?_
          refine rndK (fr'' := [(0, .fn (.yield b10) [] []), (1, .ptr 1 0), (3, .i s4.1), (4, .i v11), (13, .bo (decide (v11 < 0))), (14, .fn (.yield b10) [] []), (15, .l cU a0), (16, .i s4.1), (17, .i s4.1), (18, .i v11), (19, .i ((w64 (s4.1 + v11)))), (20, .l cU v14), (21, .i s4.1), (22, .i v11), (23, .i ((w64 (s4.1 + v11)))), (24, .i ((w64 ((w64 (s4.1 + v11)) + 2))))]) (σ'' := [(1099999, .sus g0.w.heap.size ds10), (1099998, .lp b10 L10), (1000000, .hold (.l cU a0) (T10.getD 0 undef)), (1000002, .hold (.ptr 2 0) (T10.getD 2 undef)), (1000003, .hold (.ptr 3 0) (T10.getD 3 undef)), (1000004, .hold (.ptr 4 0) (T10.getD 4 undef)), (1000005, .hold (.ptr 5 0) (T10.getD 5 undef)), (1000006, .hold (.ptr 6 0) (T10.getD 6 undef)), (1000007, .hold (.ptr 7 0) (T10.getD 7 undef)), (1000017, .hold (.fn (.func 57) [] [.ptr 1 0]) (T10.getD 17 undef)), (1, .cells [.l cU a0]), (7, .cells [.i ((w64 ((w64 (s4.1 + v11)) + 2)))]), (1006, .row 5 false 1 (List.map cU v26)), (6, .cells [.hs 1006 0]), (5, .cells [.i 0, .i 0]), (4, .cells [.bo false]), (3, .cells [.i 0]), (2, .cells [.l cU ([])])]) .off stoLe_refl rfl (.cons rfl (.cons rfl (.cons rfl (.cons rfl (.cons rfl (.cons rfl (.cons rfl (.cons rfl (.cons rfl (.cons rfl (.cons rfl (.cons rfl (.cons rfl (.cons rfl (.cons rfl (.cons rfl .nil)))))))))))))))) rfl (stoLe_cons rfl (stoLe_cons rfl (stoLe_cons rfl (stoLe_cons rfl (stoLe_cons rfl (stoLe_cons rfl (stoLe_cons rfl (stoLe_cons rfl (stoLe_cons rfl (stoLe_cons rfl (stoLe_cons rfl (stoLe_cons rfl (stoLe_cons rfl (stoLe_cons rfl (stoLe_cons rfl (stoLe_cons rfl (stoLe_cons rfl (stoLe_cons rfl stoLe_nil)))))))))))))))))) ?_
          refine awpl_yes (d := 13) rfl rfl rfl c13 (opTo_q (d := 26) rfl rfl (ev_not rfl)) ?_
          refine awpl_op rfl (opTo_q (d := 27) rfl rfl (ev_pick_f rfl c13)) ?_
          refine awpl_nil ?_
          refine kthen_normal ?_
          refine awp_cond (t := false) rfl (fun h => nomatch h) (fun _ => ?_)
          refine awp_skip ?_
          refine kthen_normal ?_
          refine awp_region ?_
          refine awpl_op rfl (opTo_q (d := 28) rfl rfl ev_move) ?_
          refine awpl_op rfl (opTo_q (d := 29) rfl rfl ev_move) ?_
          refine awpl_op rfl (opTo_q (d := 30) rfl rfl (ev_add rfl rfl)) ?_
          refine awpl_op rfl (opTo_q (d := 31) rfl rfl (ev_add rfl rfl)) ?_
          refine awpl_op rfl (opTo_q (d := 3) rfl rfl ev_assign) ?_
          refine awpl_nil ?_
          refine kblock_normal ?_
          cases hr
          exact ⟨rfl, (frLe_cons rfl (frLe_cons rfl (frLe_cons rfl frLe_nil))), (stoLe_cons rfl (stoLe_cons rfl (stoLe_cons rfl (stoLe_cons rfl (stoLe_cons rfl (stoLe_cons rfl (stoLe_cons rfl (stoLe_cons rfl (stoLe_cons rfl (stoLe_cons rfl (stoLe_cons rfl (stoLe_cons rfl (stoLe_cons rfl (stoLe_cons rfl (stoLe_cons rfl (stoLe_cons rfl (stoLe_cons rfl (stoLe_cons rfl stoLe_nil))))))))))))))))))⟩
    · intro e fr2 st2 hq
      rcases o7 with b5 | b6
      · obtain ⟨rfl, hf, hs⟩ := hq
        refine kblock_ret ?_
        refine itrK (L' := L10) (fr'' := [(0, .l cU a0), (2, .ptr 2 0), (3, .ptr 3 0), (4, .ptr 4 0), (5, .ptr 5 0), (6, .ptr 6 0), (7, .ptr 7 0), (17, .fn (.func 57) [] [.ptr 1 0])]) (σ'' := [(1, .cells [.l cU a0]), (7, .cells [.i b5.1]), (1006, .row 5 false 1 (List.map cU b5.2)), (6, .cells [.hs 1006 0]), (5, .cells [.i 0, .i 0]), (4, .cells [.bo false]), (3, .cells [.i 0]), (2, .cells [.l cU ([])])]) (.inl rfl) hs rfl (.cons rfl (.cons rfl (.cons rfl (.cons rfl (.cons rfl (.cons rfl (.cons rfl (.cons rfl .nil)))))))) rfl (stoLe_cons rfl (stoLe_cons rfl (stoLe_cons rfl (stoLe_cons rfl (stoLe_cons rfl (stoLe_cons rfl (stoLe_cons rfl (stoLe_cons rfl stoLe_nil)))))))) rfl ?_
        refine .off ?_
        refine kblock_normal ?_
        refine kthen_normal ?_
        refine awp_seq ?_
        refine awp_region ?_
        refine awpl_op rfl (opTo_q (d := 38) rfl rfl (ev_load rfl rfl ty_s_uint8 rfl rfl)) ?_
        refine awpl_op rfl (opTo_q (d := 39) rfl rfl (ev_hlen (F := cU) rfl rfl ty_s_uint8.u)) ?_
        refine awpl_op rfl (opTo_q (d := 10) rfl rfl ev_assign) ?_
        refine awpl_nil ?_
        refine kthen_normal ?_
        obtain ⟨j28, hx, hy⟩ := bind_some hr
        refine awp_join (fun j28 => [(2, .ptr 2 0), (3, .ptr 3 0), (4, .ptr 4 0), (5, .ptr 5 0), (10, .i j28)]) (fun j28 => [(5, .cells [.i 0, .i 0]), (4, .cells [.bo false]), (3, .cells [.i 0]), (2, .cells [.l cU ([])])]) (fun z => j28 = z) ?_ ?_
        · have hr := hx
          clear hx hy
          refine awp_seq ?_
          refine awp_region ?_
          refine awpl_op rfl (opTo_q (d := 40) rfl rfl ev_move) ?_
          refine awpl_op rfl (opTo_q (d := 41) rfl rfl (ev_load rfl rfl ty_int rfl rfl)) ?_
          obtain ⟨v29, h30, hr⟩ := bind_some hr
          refine awpl_op rfl (opTo_q (d := 42) rfl rfl (ev_cutL (F := cU) rfl rfl ty_s_uint8 ty_uint8 (fun _ => rfl) h30)) ?_
          refine awpl_op rfl (opTo_q (d := 43) rfl rfl (ev_bytes2s rfl ty_s_uint8 ty_uint8 ty_string)) ?_
          refine awpl_op rfl (opTo_q (d := 11) rfl rfl ev_assign) ?_
          refine awpl_nil ?_
          refine kthen_normal ?_
          obtain ⟨j31, hx, hy⟩ := bind_some hr
          refine awp_join (fun j31 => [(0, .l cU a0), (2, .ptr 2 0), (3, .ptr 3 0), (4, .ptr 4 0), (5, .ptr 5 0), (7, .ptr 7 0), (10, .i ((b5.2.length : Int))), (49, .bo j31)]) (fun j31 => [(7, .cells [.i b5.1]), (5, .cells [.i 0, .i 0]), (4, .cells [.bo false]), (3, .cells [.i 0]), (2, .cells [.l cU ([])])]) (fun z => j31 = z) ?_ ?_
          · have hr := hx
            clear hx hy
            refine awp_region ?_
            refine awpl_op rfl (opTo_q (d := 44) rfl rfl ev_move) ?_
            refine awpl_op rfl (opTo_q (d := 45) rfl rfl (ev_sneq (a := v29) (b := ([46] : Str)) rfl rfl)) ?_
            refine awpl_op rfl (opTo_q (d := 46) rfl rfl ev_move) ?_
            refine bool_split ((v29 != ([46] : Str))) (fun c32 => ?_) (fun c32 => ?_)
            · replace hr := cond_t c32 hr
              refine awpl_yes (d := 46) rfl rfl rfl c32 (opTo_q (d := 47) rfl rfl ev_move) ?_
              refine awpl_yes (d := 46) rfl rfl rfl c32 (opTo_q (d := 48) rfl rfl (ev_sneq (a := v29) (b := ([46, 13] : Str)) rfl rfl)) ?_
              refine awpl_op rfl (opTo_q (d := 49) rfl rfl (ev_pick_t rfl c32)) ?_
              refine awpl_nil ?_
              cases hr
              exact joinK_normal _ rfl (frLe_cons rfl (frLe_cons rfl (frLe_cons rfl (frLe_cons rfl (frLe_cons rfl (frLe_cons rfl (frLe_cons rfl (frLe_cons rfl frLe_nil)))))))) (stoLe_cons rfl (stoLe_cons rfl (stoLe_cons rfl (stoLe_cons rfl (stoLe_cons rfl stoLe_nil)))))
            · replace hr := cond_f c32 hr
              refine awpl_no (d := 46) rfl rfl rfl c32 ?_
              refine awpl_no (d := 46) rfl rfl rfl c32 ?_
              refine awpl_op rfl (opTo_q (d := 49) rfl rfl (ev_pick_f rfl c32)) ?_
              refine awpl_nil ?_
              cases hr
              exact joinK_normal _ rfl (frLe_cons rfl (frLe_cons rfl (frLe_cons rfl (frLe_cons rfl (frLe_cons rfl (frLe_cons rfl (frLe_cons rfl (frLe_cons rfl frLe_nil)))))))) (stoLe_cons rfl (stoLe_cons rfl (stoLe_cons rfl (stoLe_cons rfl (stoLe_cons rfl stoLe_nil)))))
          · rintro _ rfl
            have hr := hy
            clear hx hy
            refine awp_cond rfl (fun c33 => ?_) (fun c33 => ?_)
            · replace hr := cond_t c33 hr
              refine awp_region ?_
              refine awpl_op rfl (opTo_q (d := 50) rfl rfl ev_move) ?_
              refine awpl_op rfl (opTo_q (d := 51) rfl rfl ev_move) ?_
              refine awpl_op rfl (opTo_q (d := 52) rfl rfl (ev_load rfl rfl ty_int rfl rfl)) ?_
              obtain ⟨v34, h35, hr⟩ := bind_some hr
              refine awpl_op rfl (opTo_q (d := 53) rfl rfl (ev_cutL (F := cU) rfl rfl ty_s_uint8 ty_uint8 (fun _ => rfl) h35)) ?_
              refine awpl_litconv rfl (opGN_lit (F := cU) (l := ([(46 : UInt8)] : List UInt8)) ty_s_uint8 ty_uint8 rfl (fun _ => rfl) rfl rfl) ty_s_uint8 ty_uint8 (wanted_plain rfl) (wanted_plain rfl) rfl ?_
              obtain ⟨v36, h37, hr⟩ := bind_some hr
              refine awpl_op rfl (opTo_call (k := 56) (bytes_TrimPrefix_run v34 (([(46 : UInt8)] : List UInt8)) v36 h37) rfl rfl) ?_
              refine awpl_op rfl (opTo_q (d := 57) rfl rfl (ev_llen (f := cU) rfl ty_s_uint8.u)) ?_
              refine awpl_op rfl (opTo_q (d := 58) rfl rfl (ev_add rfl rfl)) ?_
              refine awpl_op rfl (opTo_q (d := 10) rfl rfl ev_assign) ?_
              refine awpl_nil ?_
              cases hr
              exact joinK_normal _ rfl (frLe_cons rfl (frLe_cons rfl (frLe_cons rfl (frLe_cons rfl (frLe_cons rfl frLe_nil))))) (stoLe_cons rfl (stoLe_cons rfl (stoLe_cons rfl (stoLe_cons rfl stoLe_nil))))
            · replace hr := cond_f c33 hr
              refine awp_skip ?_
              cases hr
              exact joinK_normal _ rfl (frLe_cons rfl (frLe_cons rfl (frLe_cons rfl (frLe_cons rfl (frLe_cons rfl frLe_nil))))) (stoLe_cons rfl (stoLe_cons rfl (stoLe_cons rfl (stoLe_cons rfl stoLe_nil))))
        · rintro _ rfl
          have hr := hy
          clear hx hy
          refine awp_seq ?_
          refine awp_seq ?_
          refine awp_region ?_
          refine awpl_op rfl (opTo_q (d := 59) rfl rfl ev_move) ?_
          refine awpl_op rfl (opTo_q (d := 60) rfl rfl (ev_gtr rfl rfl)) ?_
          refine awpl_nil ?_
          refine kthen_normal ?_
          refine awp_cond rfl (fun c38 => ?_) (fun c38 => ?_)
          · replace hr := cond_t c38 hr
            refine awp_seq ?_
            refine awp_region ?_
            obtain ⟨v39, h40, hr⟩ := bind_some hr
            refine awpl_op rfl (opTo_call (k := 61) (basic_Fault_run 1 ((-2)) v39 h40) rfl rfl) ?_
            refine awpl_op rfl (opTo_store rfl rfl rfl ty_s_uint8 rfl rfl) ?_
            refine awpl_op rfl (opTo_store rfl rfl rfl ty_int rfl rfl) ?_
            refine awpl_op rfl (opTo_store rfl rfl rfl ty_bool rfl rfl) ?_
            refine awpl_op rfl (opTo_store rfl rfl rfl ty_api_Fault rfl rfl) ?_
            refine awpl_nil ?_
            refine kthen_normal ?_
            refine awp_ret ?_
            refine kthen_ret ?_
            cases hr
            exact kret' rfl (.cons (res_cell rfl rfl ty_s_uint8 rfl rfl) (.cons (res_cell rfl rfl ty_int rfl rfl) (.cons (res_cell rfl rfl ty_bool rfl rfl) (.cons (res_cellN rfl rfl ty_api_Fault rfl rfl) .nil)))) rfl
          · replace hr := cond_f c38 hr
            refine awp_skip ?_
            refine kthen_normal ?_
            refine awp_seq ?_
            refine awp_region ?_
            obtain ⟨v41, h42, hr⟩ := bind_some hr
            refine awpl_op rfl (opTo_call (k := 62) (basic_None_run  v41 h42) rfl rfl) ?_
            refine awpl_op rfl (opTo_store rfl rfl rfl ty_s_uint8 rfl rfl) ?_
            refine awpl_op rfl (opTo_store rfl rfl rfl ty_int rfl rfl) ?_
            refine awpl_op rfl (opTo_store rfl rfl rfl ty_bool rfl rfl) ?_
            refine awpl_op rfl (opTo_store rfl rfl rfl ty_api_Fault rfl rfl) ?_
            refine awpl_nil ?_
            refine kthen_normal ?_
            refine awp_ret ?_
            cases hr
            exact kret' rfl (.cons (res_cell rfl rfl ty_s_uint8 rfl rfl) (.cons (res_cell rfl rfl ty_int rfl rfl) (.cons (res_cell rfl rfl ty_bool rfl rfl) (.cons (res_cellN rfl rfl ty_api_Fault rfl rfl) .nil)))) rfl
      · obtain ⟨rfl, hf, hs⟩ := hq
        refine kblock_ret ?_
        refine itrK (L' := (stop L10 .ret)) (fr'' := [(0, .l cU a0), (2, .ptr 2 0), (3, .ptr 3 0), (4, .ptr 4 0), (5, .ptr 5 0), (6, .ptr 6 0), (7, .ptr 7 0), (17, .fn (.func 57) [] [.ptr 1 0])]) (σ'' := [(1, .cells [.l cU a0]), (7, .cells [.i b6.1]), (1006, .row 5 false 1 (List.map cU b6.2.1)), (6, .cells [.hs 1006 0]), (5, .cells [.i b6.2.2.1, .i b6.2.2.2.1]), (4, .cells [.bo b6.2.2.2.2.1]), (3, .cells [.i b6.2.2.2.2.2.1]), (2, .cells [.l cU b6.2.2.2.2.2.2])]) (.inl rfl) hs rfl (.cons rfl (.cons rfl (.cons rfl (.cons rfl (.cons rfl (.cons rfl (.cons rfl (.cons rfl .nil)))))))) rfl (stoLe_cons rfl (stoLe_cons rfl (stoLe_cons rfl (stoLe_cons rfl (stoLe_cons rfl (stoLe_cons rfl (stoLe_cons rfl (stoLe_cons rfl stoLe_nil)))))))) rfl ?_
        refine .jump ?_
        refine awp_ret ?_
        refine kblock_ret ?_
        refine kthen_ret ?_
        cases hr
        exact kret' rfl (.cons (res_cell rfl rfl ty_s_uint8 rfl rfl) (.cons (res_cell rfl rfl ty_int rfl rfl) (.cons (res_cell rfl rfl ty_bool rfl rfl) (.cons (res_cellN rfl rfl ty_api_Fault rfl rfl) .nil)))) rfl
end Go.Proofs.Ytlpmbmilnoncdaa

/- A function of the program computes what its Lean function does. Written by program. -/
namespace Go.Proofs.Ytlpmbmilnoncdaa
open Go.RowKit
set_option maxRecDepth 100000
set_option maxHeartbeats 40000000
set_option linter.unusedVariables false
theorem L_splits_run  (r : Bool) (hr : L_splits = some r) : Run Try.prog 21 [] (.bo r) := by
  unfold L_splits at hr
  refine run_of_awp (fn := Try.f21) ⟨Try.func21, rfl, by kernel_rfl⟩ rfl (fun _ => rfl) fun g0 hg => ?_
  refine awp_seq ?_
  refine awp_region ?_
  refine awpl_op rfl (opTo_q (d := 0) rfl rfl ev_assign) ?_
  refine awpl_nil ?_
  refine kthen_normal ?_
  refine awp_seq ?_
  refine awp_region ?_
  refine awpl_litconv rfl (opGN_lit (F := cU) (l := ([(97 : UInt8), (13 : UInt8), (10 : UInt8), (98 : UInt8)] : List UInt8)) ty_s_uint8 ty_uint8 rfl (fun _ => rfl) rfl rfl) ty_s_uint8 ty_uint8 (wanted_plain rfl) (wanted_plain rfl) rfl ?_
  obtain ⟨v1, h2, hr⟩ := bind_some hr
  refine awpl_op rfl (opTo_call (k := 15) (lines_Split_run (([(97 : UInt8), (13 : UInt8), (10 : UInt8), (98 : UInt8)] : List UInt8)) v1 h2) rfl rfl) ?_
  refine awpl_op rfl (opTo_q (d := 12) rfl rfl ev_move) ?_
  refine awpl_op rfl (opTo_q (d := 16) rfl rfl (ev_extract rfl rfl)) ?_
  refine awpl_op rfl (opTo_q (d := 17) rfl rfl (ev_extract rfl rfl)) ?_
  refine awpl_op rfl (opTo_q (d := 18) rfl rfl (ev_extract rfl rfl)) ?_
  refine awpl_op rfl (opTo_alloc (k := 3) 3 rfl ty_api_Fault (.inr ⟨rfl, rfl⟩) rfl rfl rfl) ?_
  refine awpl_op rfl (opTo_q (d := 1) rfl rfl ev_assign) ?_
  refine awpl_op rfl (opTo_q (d := 2) rfl rfl ev_assign) ?_
  refine awpl_op rfl (opTo_store rfl rfl rfl ty_api_Fault rfl rfl) ?_
  refine awpl_nil ?_
  refine kthen_normal ?_
  refine awp_seq ?_
  refine awp_region ?_
  obtain ⟨v3, h4, hr⟩ := bind_some hr
  refine awpl_op rfl (opTo_call (k := 20) (lines_Stuff_run ([]) v3 h4) rfl rfl) ?_
  refine awpl_op rfl (opTo_q (d := 19) rfl rfl ev_move) ?_
  refine awpl_op rfl (opTo_q (d := 21) rfl rfl (ev_extract rfl rfl)) ?_
  refine awpl_op rfl (opTo_q (d := 22) rfl rfl (ev_extract rfl rfl)) ?_
  refine awpl_op rfl (opTo_alloc (k := 5) 5 rfl ty_api_Fault (.inr ⟨rfl, rfl⟩) rfl rfl rfl) ?_
  refine awpl_op rfl (opTo_q (d := 4) rfl rfl ev_assign) ?_
  refine awpl_op rfl (opTo_store rfl rfl rfl ty_api_Fault rfl rfl) ?_
  refine awpl_nil ?_
  refine kthen_normal ?_
  refine awp_seq ?_
  refine awp_region ?_
  refine awpl_litconv rfl (opGN_lit (F := cU) (l := ([(46 : UInt8), (46 : UInt8), (13 : UInt8), (10 : UInt8), (46 : UInt8), (13 : UInt8), (10 : UInt8), (120 : UInt8)] : List UInt8)) ty_s_uint8 ty_uint8 rfl (fun _ => rfl) rfl rfl) ty_s_uint8 ty_uint8 (wanted_plain rfl) (wanted_plain rfl) rfl ?_
  obtain ⟨v5, h6, hr⟩ := bind_some hr
  refine awpl_op rfl (opTo_call (k := 26) (lines_Unstuff_run (([(46 : UInt8), (46 : UInt8), (13 : UInt8), (10 : UInt8), (46 : UInt8), (13 : UInt8), (10 : UInt8), (120 : UInt8)] : List UInt8)) v5 h6) rfl rfl) ?_
  refine awpl_op rfl (opTo_q (d := 23) rfl rfl ev_move) ?_
  refine awpl_op rfl (opTo_q (d := 27) rfl rfl (ev_extract rfl rfl)) ?_
  refine awpl_op rfl (opTo_q (d := 28) rfl rfl (ev_extract rfl rfl)) ?_
  refine awpl_op rfl (opTo_q (d := 29) rfl rfl (ev_extract rfl rfl)) ?_
  refine awpl_op rfl (opTo_q (d := 30) rfl rfl (ev_extract rfl rfl)) ?_
  refine awpl_op rfl (opTo_alloc (k := 9) 9 rfl ty_api_Fault (.inr ⟨rfl, rfl⟩) rfl rfl rfl) ?_
  refine awpl_op rfl (opTo_q (d := 6) rfl rfl ev_assign) ?_
  refine awpl_op rfl (opTo_q (d := 7) rfl rfl ev_assign) ?_
  refine awpl_op rfl (opTo_q (d := 8) rfl rfl ev_assign) ?_
  refine awpl_op rfl (opTo_store rfl rfl rfl ty_api_Fault rfl rfl) ?_
  refine awpl_nil ?_
  refine kthen_normal ?_
  refine awp_seq ?_
  refine awp_region ?_
  refine awpl_litconv rfl (opGN_lit (F := cU) (l := ([(97 : UInt8)] : List UInt8)) ty_s_uint8 ty_uint8 rfl (fun _ => rfl) rfl rfl) ty_s_uint8 ty_uint8 (wanted_plain rfl) (wanted_plain rfl) rfl ?_
  obtain ⟨v7, h8, hr⟩ := bind_some hr
  refine awpl_op rfl (opTo_call (k := 34) (lines_Stuff_run (([(97 : UInt8)] : List UInt8)) v7 h8) rfl rfl) ?_
  refine awpl_op rfl (opTo_q (d := 31) rfl rfl ev_move) ?_
  refine awpl_op rfl (opTo_q (d := 35) rfl rfl (ev_extract rfl rfl)) ?_
  refine awpl_op rfl (opTo_q (d := 36) rfl rfl (ev_extract rfl rfl)) ?_
  refine awpl_op rfl (opTo_alloc (k := 11) 11 rfl ty_api_Fault (.inr ⟨rfl, rfl⟩) rfl rfl rfl) ?_
  refine awpl_op rfl (opTo_q (d := 10) rfl rfl ev_assign) ?_
  refine awpl_op rfl (opTo_store rfl rfl rfl ty_api_Fault rfl rfl) ?_
  refine awpl_nil ?_
  refine kthen_normal ?_
  obtain ⟨j9, hx, hy⟩ := bind_some hr
  refine awp_join (fun j9 => [(0, .bo j9)]) (fun j9 => []) (fun z => j9 = z) ?_ ?_
  · have hr := hx
    clear hx hy
    refine bool_split ((v1.2.2.Code == 0)) (fun c10 => ?_) (fun c10 => ?_)
    · replace hr := cond_t c10 hr
      refine bool_split ((v3.2.Code == 0)) (fun c11 => ?_) (fun c11 => ?_)
      · replace hr := cond_t c11 hr
        refine bool_split ((v5.2.2.2.Code == 0)) (fun c12 => ?_) (fun c12 => ?_)
        · replace hr := cond_t c12 hr
          obtain ⟨v13, h14, hr⟩ := bind_some hr
          refine bool_split ((allEq [(v7.2.Code == v13.Code), (v7.2.Index == v13.Index)])) (fun c15 => ?_) (fun c15 => ?_)
          · replace hr := cond_t c15 hr
            refine awp_drawn 21 [(57, .l cS (([([97] : Str)] : List Str))), (56, .l cS v1.1), (55, .bo ((allEq [(v7.2.Code == v13.Code), (v7.2.Index == v13.Index)]))), (54, .bo ((allEq [(v7.2.Code == v13.Code), (v7.2.Index == v13.Index)]))), (53, .bo ((allEq [(v7.2.Code == v13.Code), (v7.2.Index == v13.Index)]))), (52, .agg [.i v13.Code, .i v13.Index]), (51, .agg [.i v7.2.Code, .i v7.2.Index]), (50, .bo ((v5.2.2.2.Code == 0))), (49, .bo ((v5.2.2.2.Code == 0))), (48, .bo ((v5.2.2.2.Code == 0))), (47, .i v5.2.2.2.Code), (46, .ptr 9 0), (45, .bo ((v3.2.Code == 0))), (44, .bo ((v3.2.Code == 0))), (43, .bo ((v3.2.Code == 0))), (42, .i v3.2.Code), (41, .ptr 5 0), (40, .bo ((v1.2.2.Code == 0))), (39, .bo ((v1.2.2.Code == 0))), (38, .i v1.2.2.Code), (37, .ptr 3 0)] mixed (by kernel_rfl) rfl rfl (.run (.plain rfl) (opG_q (ev_fieldAddr rfl ty_api_Fault.u rfl ty_int rfl)) (.run (.plain rfl) (opG_q (ev_load rfl rfl ty_int rfl rfl)) (.run (.plain rfl) (opG_q (ev_eql rfl rfl)) (.run (.plain rfl) (opG_q ev_move) (.run (.yes (d := 40) rfl rfl rfl c10) (opG_q (ev_fieldAddr rfl ty_api_Fault.u rfl ty_int rfl)) (.run (.yes (d := 40) rfl rfl rfl c10) (opG_q (ev_load rfl rfl ty_int rfl rfl)) (.run (.yes (d := 40) rfl rfl rfl c10) (opG_q (ev_eql rfl rfl)) (.run (.plain rfl) (opG_q (ev_pick_t rfl c10)) (.run (.plain rfl) (opG_q ev_move) (.run (.yes (d := 45) rfl rfl rfl c11) (opG_q (ev_fieldAddr rfl ty_api_Fault.u rfl ty_int rfl)) (.run (.yes (d := 45) rfl rfl rfl c11) (opG_q (ev_load rfl rfl ty_int rfl rfl)) (.run (.yes (d := 45) rfl rfl rfl c11) (opG_q (ev_eql rfl rfl)) (.run (.plain rfl) (opG_q (ev_pick_t rfl c11)) (.run (.plain rfl) (opG_q ev_move) (.run (.yes (d := 50) rfl rfl rfl c12) (opG_q (ev_loadN rfl rfl ty_api_Fault rfl rfl)) (.run (.yes (d := 50) rfl rfl rfl c12) (opG_call (R_At_run 5 ((-2)) v13 h14) rfl) (.run (.yes (d := 50) rfl rfl rfl c12) (opG_q (ev_structeq rfl rfl ty_api_Fault cmp_api_Fault (.int rfl (by decide) ty_int (.int rfl (by decide) ty_int .nil)))) (.run (.plain rfl) (opG_q (ev_pick_t rfl c12)) (.run (.plain rfl) (opG_q ev_move) (.run (.yes (d := 55) rfl rfl rfl c15) (opG_q ev_move) (.run (.yes (d := 55) rfl rfl rfl c15) (opG_lit (F := cS) (l := ([([97] : Str)] : List Str)) ty_s_string ty_string rfl (fun _ => rfl) rfl rfl) .nil))))))))))))))))))))) rfl ?_
            obtain ⟨v16, h17, hr⟩ := bind_some hr
            refine awpl_yes (d := 55) rfl rfl rfl c15 (opTo_call (k := 58) (R_Strings_run v1.1 (([([97] : Str)] : List Str)) v16 h17) rfl rfl) ?_
            refine awpl_op rfl (opTo_q (d := 59) rfl rfl (ev_pick_t rfl c15)) ?_
            refine awpl_op rfl (opTo_q (d := 60) rfl rfl ev_move) ?_
            refine bool_split v16 (fun c18 => ?_) (fun c18 => ?_)
            · replace hr := cond_t c18 hr
              refine awpl_yes (d := 60) rfl rfl rfl c18 (opTo_q (d := 61) rfl rfl ev_move) ?_
              refine awpl_yes (d := 60) rfl rfl rfl c18 (opTo_q (d := 62) rfl rfl (ev_bytes2s rfl ty_s_uint8 ty_uint8 ty_string)) ?_
              refine awpl_yes (d := 60) rfl rfl rfl c18 (opTo_q (d := 63) rfl rfl (ev_seql (a := v1.2.1) (b := ([98] : Str)) rfl rfl)) ?_
              refine awpl_op rfl (opTo_q (d := 64) rfl rfl (ev_pick_t rfl c18)) ?_
              refine awpl_op rfl (opTo_q (d := 65) rfl rfl ev_move) ?_
              refine bool_split ((v1.2.1 == ([98] : Str))) (fun c19 => ?_) (fun c19 => ?_)
              · replace hr := cond_t c19 hr
                refine awpl_yes (d := 65) rfl rfl rfl c19 (opTo_q (d := 66) rfl rfl ev_move) ?_
                refine awpl_yes (d := 65) rfl rfl rfl c19 (opTo_q (d := 67) rfl rfl (ev_bytes2s rfl ty_s_uint8 ty_uint8 ty_string)) ?_
                refine awpl_yes (d := 65) rfl rfl rfl c19 (opTo_q (d := 68) rfl rfl (ev_seql (a := v3.1) (b := ([46, 13, 10] : Str)) rfl rfl)) ?_
                refine awpl_op rfl (opTo_q (d := 69) rfl rfl (ev_pick_t rfl c19)) ?_
                refine awpl_op rfl (opTo_q (d := 70) rfl rfl ev_move) ?_
                refine bool_split ((v3.1 == ([46, 13, 10] : Str))) (fun c20 => ?_) (fun c20 => ?_)
                · replace hr := cond_t c20 hr
                  refine awpl_yes (d := 70) rfl rfl rfl c20 (opTo_q (d := 71) rfl rfl ev_move) ?_
                  refine awpl_yes (d := 70) rfl rfl rfl c20 (opTo_q (d := 72) rfl rfl (ev_bytes2s rfl ty_s_uint8 ty_uint8 ty_string)) ?_
                  refine awpl_yes (d := 70) rfl rfl rfl c20 (opTo_q (d := 73) rfl rfl (ev_seql (a := v5.1) (b := ([46, 13, 10] : Str)) rfl rfl)) ?_
                  refine awpl_op rfl (opTo_q (d := 74) rfl rfl (ev_pick_t rfl c20)) ?_
                  refine awpl_op rfl (opTo_q (d := 75) rfl rfl ev_move) ?_
                  refine bool_split ((v5.1 == ([46, 13, 10] : Str))) (fun c21 => ?_) (fun c21 => ?_)
                  · replace hr := cond_t c21 hr
                    refine awpl_yes (d := 75) rfl rfl rfl c21 (opTo_q (d := 76) rfl rfl ev_move) ?_
                    refine awpl_yes (d := 75) rfl rfl rfl c21 (opTo_q (d := 77) rfl rfl (ev_eql rfl rfl)) ?_
                    refine awpl_op rfl (opTo_q (d := 78) rfl rfl (ev_pick_t rfl c21)) ?_
                    refine awpl_op rfl (opTo_q (d := 79) rfl rfl ev_move) ?_
                    refine bool_split ((v5.2.1 == 7)) (fun c22 => ?_) (fun c22 => ?_)
                    · replace hr := cond_t c22 hr
                      refine awpl_yes (d := 79) rfl rfl rfl c22 (opTo_q (d := 80) rfl rfl ev_move) ?_
                      refine awpl_op rfl (opTo_q (d := 81) rfl rfl (ev_pick_t rfl c22)) ?_
                      refine awpl_op rfl (opTo_q (d := 0) rfl rfl ev_assign) ?_
                      refine awpl_nil ?_
                      cases hr
                      exact joinK_normal _ rfl (frLe_cons rfl frLe_nil) stoLe_nil
                    · replace hr := cond_f c22 hr
                      refine awpl_no (d := 79) rfl rfl rfl c22 ?_
                      refine awpl_op rfl (opTo_q (d := 81) rfl rfl (ev_pick_f rfl c22)) ?_
                      refine awpl_op rfl (opTo_q (d := 0) rfl rfl ev_assign) ?_
                      refine awpl_nil ?_
                      cases hr
                      exact joinK_normal _ rfl (frLe_cons rfl frLe_nil) stoLe_nil
                  · replace hr := cond_f c21 hr
                    refine awpl_no (d := 75) rfl rfl rfl c21 ?_
                    refine awpl_no (d := 75) rfl rfl rfl c21 ?_
                    refine awpl_op rfl (opTo_q (d := 78) rfl rfl (ev_pick_f rfl c21)) ?_
                    refine awpl_op rfl (opTo_q (d := 79) rfl rfl ev_move) ?_
                    refine awpl_no (d := 79) rfl rfl rfl rfl ?_
                    refine awpl_op rfl (opTo_q (d := 81) rfl rfl (ev_pick_f rfl rfl)) ?_
                    refine awpl_op rfl (opTo_q (d := 0) rfl rfl ev_assign) ?_
                    refine awpl_nil ?_
                    cases hr
                    exact joinK_normal _ rfl (frLe_cons rfl frLe_nil) stoLe_nil
                · replace hr := cond_f c20 hr
                  refine awpl_no (d := 70) rfl rfl rfl c20 ?_
                  refine awpl_no (d := 70) rfl rfl rfl c20 ?_
                  refine awpl_no (d := 70) rfl rfl rfl c20 ?_
                  refine awpl_op rfl (opTo_q (d := 74) rfl rfl (ev_pick_f rfl c20)) ?_
                  refine awpl_op rfl (opTo_q (d := 75) rfl rfl ev_move) ?_
                  refine awpl_no (d := 75) rfl rfl rfl rfl ?_
                  refine awpl_no (d := 75) rfl rfl rfl rfl ?_
                  refine awpl_op rfl (opTo_q (d := 78) rfl rfl (ev_pick_f rfl rfl)) ?_
                  refine awpl_op rfl (opTo_q (d := 79) rfl rfl ev_move) ?_
                  refine awpl_no (d := 79) rfl rfl rfl rfl ?_
                  refine awpl_op rfl (opTo_q (d := 81) rfl rfl (ev_pick_f rfl rfl)) ?_
                  refine awpl_op rfl (opTo_q (d := 0) rfl rfl ev_assign) ?_
                  refine awpl_nil ?_
                  cases hr
                  exact joinK_normal _ rfl (frLe_cons rfl frLe_nil) stoLe_nil
              · replace hr := cond_f c19 hr
                refine awpl_no (d := 65) rfl rfl rfl c19 ?_
                refine awpl_no (d := 65) rfl rfl rfl c19 ?_
                refine awpl_no (d := 65) rfl rfl rfl c19 ?_
                refine awpl_op rfl (opTo_q (d := 69) rfl rfl (ev_pick_f rfl c19)) ?_
                refine awpl_op rfl (opTo_q (d := 70) rfl rfl ev_move) ?_
                refine awpl_no (d := 70) rfl rfl rfl rfl ?_
                refine awpl_no (d := 70) rfl rfl rfl rfl ?_
                refine awpl_no (d := 70) rfl rfl rfl rfl ?_
                refine awpl_op rfl (opTo_q (d := 74) rfl rfl (ev_pick_f rfl rfl)) ?_
                refine awpl_op rfl (opTo_q (d := 75) rfl rfl ev_move) ?_
                refine awpl_no (d := 75) rfl rfl rfl rfl ?_
                refine awpl_no (d := 75) rfl rfl rfl rfl ?_
                refine awpl_op rfl (opTo_q (d := 78) rfl rfl (ev_pick_f rfl rfl)) ?_
                refine awpl_op rfl (opTo_q (d := 79) rfl rfl ev_move) ?_
                refine awpl_no (d := 79) rfl rfl rfl rfl ?_
                refine awpl_op rfl (opTo_q (d := 81) rfl rfl (ev_pick_f rfl rfl)) ?_
                refine awpl_op rfl (opTo_q (d := 0) rfl rfl ev_assign) ?_
                refine awpl_nil ?_
                cases hr
                exact joinK_normal _ rfl (frLe_cons rfl frLe_nil) stoLe_nil
            · replace hr := cond_f c18 hr
              refine awpl_no (d := 60) rfl rfl rfl c18 ?_
              refine awpl_no (d := 60) rfl rfl rfl c18 ?_
              refine awpl_no (d := 60) rfl rfl rfl c18 ?_
              refine awpl_op rfl (opTo_q (d := 64) rfl rfl (ev_pick_f rfl c18)) ?_
              refine awpl_op rfl (opTo_q (d := 65) rfl rfl ev_move) ?_
              refine awpl_no (d := 65) rfl rfl rfl rfl ?_
              refine awpl_no (d := 65) rfl rfl rfl rfl ?_
              refine awpl_no (d := 65) rfl rfl rfl rfl ?_
              refine awpl_op rfl (opTo_q (d := 69) rfl rfl (ev_pick_f rfl rfl)) ?_
              refine awpl_op rfl (opTo_q (d := 70) rfl rfl ev_move) ?_
              refine awpl_no (d := 70) rfl rfl rfl rfl ?_
              refine awpl_no (d := 70) rfl rfl rfl rfl ?_
              refine awpl_no (d := 70) rfl rfl rfl rfl ?_
              refine awpl_op rfl (opTo_q (d := 74) rfl rfl (ev_pick_f rfl rfl)) ?_
              refine awpl_op rfl (opTo_q (d := 75) rfl rfl ev_move) ?_
              refine awpl_no (d := 75) rfl rfl rfl rfl ?_
              refine awpl_no (d := 75) rfl rfl rfl rfl ?_
              refine awpl_op rfl (opTo_q (d := 78) rfl rfl (ev_pick_f rfl rfl)) ?_
              refine awpl_op rfl (opTo_q (d := 79) rfl rfl ev_move) ?_
              refine awpl_no (d := 79) rfl rfl rfl rfl ?_
              refine awpl_op rfl (opTo_q (d := 81) rfl rfl (ev_pick_f rfl rfl)) ?_
              refine awpl_op rfl (opTo_q (d := 0) rfl rfl ev_assign) ?_
              refine awpl_nil ?_
              cases hr
              exact joinK_normal _ rfl (frLe_cons rfl frLe_nil) stoLe_nil
          · replace hr := cond_f c15 hr
            refine awp_drawn 21 [(57, .tup []), (56, .tup []), (55, .bo ((allEq [(v7.2.Code == v13.Code), (v7.2.Index == v13.Index)]))), (54, .bo ((allEq [(v7.2.Code == v13.Code), (v7.2.Index == v13.Index)]))), (53, .bo ((allEq [(v7.2.Code == v13.Code), (v7.2.Index == v13.Index)]))), (52, .agg [.i v13.Code, .i v13.Index]), (51, .agg [.i v7.2.Code, .i v7.2.Index]), (50, .bo ((v5.2.2.2.Code == 0))), (49, .bo ((v5.2.2.2.Code == 0))), (48, .bo ((v5.2.2.2.Code == 0))), (47, .i v5.2.2.2.Code), (46, .ptr 9 0), (45, .bo ((v3.2.Code == 0))), (44, .bo ((v3.2.Code == 0))), (43, .bo ((v3.2.Code == 0))), (42, .i v3.2.Code), (41, .ptr 5 0), (40, .bo ((v1.2.2.Code == 0))), (39, .bo ((v1.2.2.Code == 0))), (38, .i v1.2.2.Code), (37, .ptr 3 0)] mixed (by kernel_rfl) rfl rfl (.run (.plain rfl) (opG_q (ev_fieldAddr rfl ty_api_Fault.u rfl ty_int rfl)) (.run (.plain rfl) (opG_q (ev_load rfl rfl ty_int rfl rfl)) (.run (.plain rfl) (opG_q (ev_eql rfl rfl)) (.run (.plain rfl) (opG_q ev_move) (.run (.yes (d := 40) rfl rfl rfl c10) (opG_q (ev_fieldAddr rfl ty_api_Fault.u rfl ty_int rfl)) (.run (.yes (d := 40) rfl rfl rfl c10) (opG_q (ev_load rfl rfl ty_int rfl rfl)) (.run (.yes (d := 40) rfl rfl rfl c10) (opG_q (ev_eql rfl rfl)) (.run (.plain rfl) (opG_q (ev_pick_t rfl c10)) (.run (.plain rfl) (opG_q ev_move) (.run (.yes (d := 45) rfl rfl rfl c11) (opG_q (ev_fieldAddr rfl ty_api_Fault.u rfl ty_int rfl)) (.run (.yes (d := 45) rfl rfl rfl c11) (opG_q (ev_load rfl rfl ty_int rfl rfl)) (.run (.yes (d := 45) rfl rfl rfl c11) (opG_q (ev_eql rfl rfl)) (.run (.plain rfl) (opG_q (ev_pick_t rfl c11)) (.run (.plain rfl) (opG_q ev_move) (.run (.yes (d := 50) rfl rfl rfl c12) (opG_q (ev_loadN rfl rfl ty_api_Fault rfl rfl)) (.run (.yes (d := 50) rfl rfl rfl c12) (opG_call (R_At_run 5 ((-2)) v13 h14) rfl) (.run (.yes (d := 50) rfl rfl rfl c12) (opG_q (ev_structeq rfl rfl ty_api_Fault cmp_api_Fault (.int rfl (by decide) ty_int (.int rfl (by decide) ty_int .nil)))) (.run (.plain rfl) (opG_q (ev_pick_t rfl c12)) (.run (.plain rfl) (opG_q ev_move) (.skip (.no (d := 55) rfl rfl rfl c15) (.skip (.no (d := 55) rfl rfl rfl c15) .nil))))))))))))))))))))) rfl ?_
            refine awpl_no (d := 55) rfl rfl rfl c15 ?_
            refine awpl_op rfl (opTo_q (d := 59) rfl rfl (ev_pick_f rfl c15)) ?_
            refine awpl_op rfl (opTo_q (d := 60) rfl rfl ev_move) ?_
            refine awpl_no (d := 60) rfl rfl rfl rfl ?_
            refine awpl_no (d := 60) rfl rfl rfl rfl ?_
            refine awpl_no (d := 60) rfl rfl rfl rfl ?_
            refine awpl_op rfl (opTo_q (d := 64) rfl rfl (ev_pick_f rfl rfl)) ?_
            refine awpl_op rfl (opTo_q (d := 65) rfl rfl ev_move) ?_
            refine awpl_no (d := 65) rfl rfl rfl rfl ?_
            refine awpl_no (d := 65) rfl rfl rfl rfl ?_
            refine awpl_no (d := 65) rfl rfl rfl rfl ?_
            refine awpl_op rfl (opTo_q (d := 69) rfl rfl (ev_pick_f rfl rfl)) ?_
            refine awpl_op rfl (opTo_q (d := 70) rfl rfl ev_move) ?_
            refine awpl_no (d := 70) rfl rfl rfl rfl ?_
            refine awpl_no (d := 70) rfl rfl rfl rfl ?_
            refine awpl_no (d := 70) rfl rfl rfl rfl ?_
            refine awpl_op rfl (opTo_q (d := 74) rfl rfl (ev_pick_f rfl rfl)) ?_
            refine awpl_op rfl (opTo_q (d := 75) rfl rfl ev_move) ?_
            refine awpl_no (d := 75) rfl rfl rfl rfl ?_
            refine awpl_no (d := 75) rfl rfl rfl rfl ?_
            refine awpl_op rfl (opTo_q (d := 78) rfl rfl (ev_pick_f rfl rfl)) ?_
            refine awpl_op rfl (opTo_q (d := 79) rfl rfl ev_move) ?_
            refine awpl_no (d := 79) rfl rfl rfl rfl ?_
            refine awpl_op rfl (opTo_q (d := 81) rfl rfl (ev_pick_f rfl rfl)) ?_
            refine awpl_op rfl (opTo_q (d := 0) rfl rfl ev_assign) ?_
            refine awpl_nil ?_
            cases hr
            exact joinK_normal _ rfl (frLe_cons rfl frLe_nil) stoLe_nil
        · replace hr := cond_f c12 hr
          refine awp_drawn 21 [(57, .tup []), (56, .tup []), (55, .bo false), (54, .bo false), (53, .tup []), (52, .tup []), (51, .tup []), (50, .bo ((v5.2.2.2.Code == 0))), (49, .bo ((v5.2.2.2.Code == 0))), (48, .bo ((v5.2.2.2.Code == 0))), (47, .i v5.2.2.2.Code), (46, .ptr 9 0), (45, .bo ((v3.2.Code == 0))), (44, .bo ((v3.2.Code == 0))), (43, .bo ((v3.2.Code == 0))), (42, .i v3.2.Code), (41, .ptr 5 0), (40, .bo ((v1.2.2.Code == 0))), (39, .bo ((v1.2.2.Code == 0))), (38, .i v1.2.2.Code), (37, .ptr 3 0)] mixed (by kernel_rfl) rfl rfl (.run (.plain rfl) (opG_q (ev_fieldAddr rfl ty_api_Fault.u rfl ty_int rfl)) (.run (.plain rfl) (opG_q (ev_load rfl rfl ty_int rfl rfl)) (.run (.plain rfl) (opG_q (ev_eql rfl rfl)) (.run (.plain rfl) (opG_q ev_move) (.run (.yes (d := 40) rfl rfl rfl c10) (opG_q (ev_fieldAddr rfl ty_api_Fault.u rfl ty_int rfl)) (.run (.yes (d := 40) rfl rfl rfl c10) (opG_q (ev_load rfl rfl ty_int rfl rfl)) (.run (.yes (d := 40) rfl rfl rfl c10) (opG_q (ev_eql rfl rfl)) (.run (.plain rfl) (opG_q (ev_pick_t rfl c10)) (.run (.plain rfl) (opG_q ev_move) (.run (.yes (d := 45) rfl rfl rfl c11) (opG_q (ev_fieldAddr rfl ty_api_Fault.u rfl ty_int rfl)) (.run (.yes (d := 45) rfl rfl rfl c11) (opG_q (ev_load rfl rfl ty_int rfl rfl)) (.run (.yes (d := 45) rfl rfl rfl c11) (opG_q (ev_eql rfl rfl)) (.run (.plain rfl) (opG_q (ev_pick_t rfl c11)) (.run (.plain rfl) (opG_q ev_move) (.skip (.no (d := 50) rfl rfl rfl c12) (.skip (.no (d := 50) rfl rfl rfl c12) (.skip (.no (d := 50) rfl rfl rfl c12) (.run (.plain rfl) (opG_q (ev_pick_f rfl c12)) (.run (.plain rfl) (opG_q ev_move) (.skip (.no (d := 55) rfl rfl rfl rfl) (.skip (.no (d := 55) rfl rfl rfl rfl) .nil))))))))))))))))))))) rfl ?_
          refine awpl_no (d := 55) rfl rfl rfl rfl ?_
          refine awpl_op rfl (opTo_q (d := 59) rfl rfl (ev_pick_f rfl rfl)) ?_
          refine awpl_op rfl (opTo_q (d := 60) rfl rfl ev_move) ?_
          refine awpl_no (d := 60) rfl rfl rfl rfl ?_
          refine awpl_no (d := 60) rfl rfl rfl rfl ?_
          refine awpl_no (d := 60) rfl rfl rfl rfl ?_
          refine awpl_op rfl (opTo_q (d := 64) rfl rfl (ev_pick_f rfl rfl)) ?_
          refine awpl_op rfl (opTo_q (d := 65) rfl rfl ev_move) ?_
          refine awpl_no (d := 65) rfl rfl rfl rfl ?_
          refine awpl_no (d := 65) rfl rfl rfl rfl ?_
          refine awpl_no (d := 65) rfl rfl rfl rfl ?_
          refine awpl_op rfl (opTo_q (d := 69) rfl rfl (ev_pick_f rfl rfl)) ?_
          refine awpl_op rfl (opTo_q (d := 70) rfl rfl ev_move) ?_
          refine awpl_no (d := 70) rfl rfl rfl rfl ?_
          refine awpl_no (d := 70) rfl rfl rfl rfl ?_
          refine awpl_no (d := 70) rfl rfl rfl rfl ?_
          refine awpl_op rfl (opTo_q (d := 74) rfl rfl (ev_pick_f rfl rfl)) ?_
          refine awpl_op rfl (opTo_q (d := 75) rfl rfl ev_move) ?_
          refine awpl_no (d := 75) rfl rfl rfl rfl ?_
          refine awpl_no (d := 75) rfl rfl rfl rfl ?_
          refine awpl_op rfl (opTo_q (d := 78) rfl rfl (ev_pick_f rfl rfl)) ?_
          refine awpl_op rfl (opTo_q (d := 79) rfl rfl ev_move) ?_
          refine awpl_no (d := 79) rfl rfl rfl rfl ?_
          refine awpl_op rfl (opTo_q (d := 81) rfl rfl (ev_pick_f rfl rfl)) ?_
          refine awpl_op rfl (opTo_q (d := 0) rfl rfl ev_assign) ?_
          refine awpl_nil ?_
          cases hr
          exact joinK_normal _ rfl (frLe_cons rfl frLe_nil) stoLe_nil
      · replace hr := cond_f c11 hr
        refine awp_drawn 21 [(57, .tup []), (56, .tup []), (55, .bo false), (54, .bo false), (53, .tup []), (52, .tup []), (51, .tup []), (50, .bo false), (49, .bo false), (48, .tup []), (47, .tup []), (46, .tup []), (45, .bo ((v3.2.Code == 0))), (44, .bo ((v3.2.Code == 0))), (43, .bo ((v3.2.Code == 0))), (42, .i v3.2.Code), (41, .ptr 5 0), (40, .bo ((v1.2.2.Code == 0))), (39, .bo ((v1.2.2.Code == 0))), (38, .i v1.2.2.Code), (37, .ptr 3 0)] mixed (by kernel_rfl) rfl rfl (.run (.plain rfl) (opG_q (ev_fieldAddr rfl ty_api_Fault.u rfl ty_int rfl)) (.run (.plain rfl) (opG_q (ev_load rfl rfl ty_int rfl rfl)) (.run (.plain rfl) (opG_q (ev_eql rfl rfl)) (.run (.plain rfl) (opG_q ev_move) (.run (.yes (d := 40) rfl rfl rfl c10) (opG_q (ev_fieldAddr rfl ty_api_Fault.u rfl ty_int rfl)) (.run (.yes (d := 40) rfl rfl rfl c10) (opG_q (ev_load rfl rfl ty_int rfl rfl)) (.run (.yes (d := 40) rfl rfl rfl c10) (opG_q (ev_eql rfl rfl)) (.run (.plain rfl) (opG_q (ev_pick_t rfl c10)) (.run (.plain rfl) (opG_q ev_move) (.skip (.no (d := 45) rfl rfl rfl c11) (.skip (.no (d := 45) rfl rfl rfl c11) (.skip (.no (d := 45) rfl rfl rfl c11) (.run (.plain rfl) (opG_q (ev_pick_f rfl c11)) (.run (.plain rfl) (opG_q ev_move) (.skip (.no (d := 50) rfl rfl rfl rfl) (.skip (.no (d := 50) rfl rfl rfl rfl) (.skip (.no (d := 50) rfl rfl rfl rfl) (.run (.plain rfl) (opG_q (ev_pick_f rfl rfl)) (.run (.plain rfl) (opG_q ev_move) (.skip (.no (d := 55) rfl rfl rfl rfl) (.skip (.no (d := 55) rfl rfl rfl rfl) .nil))))))))))))))))))))) rfl ?_
        refine awpl_no (d := 55) rfl rfl rfl rfl ?_
        refine awpl_op rfl (opTo_q (d := 59) rfl rfl (ev_pick_f rfl rfl)) ?_
        refine awpl_op rfl (opTo_q (d := 60) rfl rfl ev_move) ?_
        refine awpl_no (d := 60) rfl rfl rfl rfl ?_
        refine awpl_no (d := 60) rfl rfl rfl rfl ?_
        refine awpl_no (d := 60) rfl rfl rfl rfl ?_
        refine awpl_op rfl (opTo_q (d := 64) rfl rfl (ev_pick_f rfl rfl)) ?_
        refine awpl_op rfl (opTo_q (d := 65) rfl rfl ev_move) ?_
        refine awpl_no (d := 65) rfl rfl rfl rfl ?_
        refine awpl_no (d := 65) rfl rfl rfl rfl ?_
        refine awpl_no (d := 65) rfl rfl rfl rfl ?_
        refine awpl_op rfl (opTo_q (d := 69) rfl rfl (ev_pick_f rfl rfl)) ?_
        refine awpl_op rfl (opTo_q (d := 70) rfl rfl ev_move) ?_
        refine awpl_no (d := 70) rfl rfl rfl rfl ?_
        refine awpl_no (d := 70) rfl rfl rfl rfl ?_
        refine awpl_no (d := 70) rfl rfl rfl rfl ?_
        refine awpl_op rfl (opTo_q (d := 74) rfl rfl (ev_pick_f rfl rfl)) ?_
        refine awpl_op rfl (opTo_q (d := 75) rfl rfl ev_move) ?_
        refine awpl_no (d := 75) rfl rfl rfl rfl ?_
        refine awpl_no (d := 75) rfl rfl rfl rfl ?_
        refine awpl_op rfl (opTo_q (d := 78) rfl rfl (ev_pick_f rfl rfl)) ?_
        refine awpl_op rfl (opTo_q (d := 79) rfl rfl ev_move) ?_
        refine awpl_no (d := 79) rfl rfl rfl rfl ?_
        refine awpl_op rfl (opTo_q (d := 81) rfl rfl (ev_pick_f rfl rfl)) ?_
        refine awpl_op rfl (opTo_q (d := 0) rfl rfl ev_assign) ?_
        refine awpl_nil ?_
        cases hr
        exact joinK_normal _ rfl (frLe_cons rfl frLe_nil) stoLe_nil
    · replace hr := cond_f c10 hr
      refine awp_drawn 21 [(57, .tup []), (56, .tup []), (55, .bo false), (54, .bo false), (53, .tup []), (52, .tup []), (51, .tup []), (50, .bo false), (49, .bo false), (48, .tup []), (47, .tup []), (46, .tup []), (45, .bo false), (44, .bo false), (43, .tup []), (42, .tup []), (41, .tup []), (40, .bo ((v1.2.2.Code == 0))), (39, .bo ((v1.2.2.Code == 0))), (38, .i v1.2.2.Code), (37, .ptr 3 0)] mixed (by kernel_rfl) rfl rfl (.run (.plain rfl) (opG_q (ev_fieldAddr rfl ty_api_Fault.u rfl ty_int rfl)) (.run (.plain rfl) (opG_q (ev_load rfl rfl ty_int rfl rfl)) (.run (.plain rfl) (opG_q (ev_eql rfl rfl)) (.run (.plain rfl) (opG_q ev_move) (.skip (.no (d := 40) rfl rfl rfl c10) (.skip (.no (d := 40) rfl rfl rfl c10) (.skip (.no (d := 40) rfl rfl rfl c10) (.run (.plain rfl) (opG_q (ev_pick_f rfl c10)) (.run (.plain rfl) (opG_q ev_move) (.skip (.no (d := 45) rfl rfl rfl rfl) (.skip (.no (d := 45) rfl rfl rfl rfl) (.skip (.no (d := 45) rfl rfl rfl rfl) (.run (.plain rfl) (opG_q (ev_pick_f rfl rfl)) (.run (.plain rfl) (opG_q ev_move) (.skip (.no (d := 50) rfl rfl rfl rfl) (.skip (.no (d := 50) rfl rfl rfl rfl) (.skip (.no (d := 50) rfl rfl rfl rfl) (.run (.plain rfl) (opG_q (ev_pick_f rfl rfl)) (.run (.plain rfl) (opG_q ev_move) (.skip (.no (d := 55) rfl rfl rfl rfl) (.skip (.no (d := 55) rfl rfl rfl rfl) .nil))))))))))))))))))))) rfl ?_
      refine awpl_no (d := 55) rfl rfl rfl rfl ?_
      refine awpl_op rfl (opTo_q (d := 59) rfl rfl (ev_pick_f rfl rfl)) ?_
      refine awpl_op rfl (opTo_q (d := 60) rfl rfl ev_move) ?_
      refine awpl_no (d := 60) rfl rfl rfl rfl ?_
      refine awpl_no (d := 60) rfl rfl rfl rfl ?_
      refine awpl_no (d := 60) rfl rfl rfl rfl ?_
      refine awpl_op rfl (opTo_q (d := 64) rfl rfl (ev_pick_f rfl rfl)) ?_
      refine awpl_op rfl (opTo_q (d := 65) rfl rfl ev_move) ?_
      refine awpl_no (d := 65) rfl rfl rfl rfl ?_
      refine awpl_no (d := 65) rfl rfl rfl rfl ?_
      refine awpl_no (d := 65) rfl rfl rfl rfl ?_
      refine awpl_op rfl (opTo_q (d := 69) rfl rfl (ev_pick_f rfl rfl)) ?_
      refine awpl_op rfl (opTo_q (d := 70) rfl rfl ev_move) ?_
      refine awpl_no (d := 70) rfl rfl rfl rfl ?_
      refine awpl_no (d := 70) rfl rfl rfl rfl ?_
      refine awpl_no (d := 70) rfl rfl rfl rfl ?_
      refine awpl_op rfl (opTo_q (d := 74) rfl rfl (ev_pick_f rfl rfl)) ?_
      refine awpl_op rfl (opTo_q (d := 75) rfl rfl ev_move) ?_
      refine awpl_no (d := 75) rfl rfl rfl rfl ?_
      refine awpl_no (d := 75) rfl rfl rfl rfl ?_
      refine awpl_op rfl (opTo_q (d := 78) rfl rfl (ev_pick_f rfl rfl)) ?_
      refine awpl_op rfl (opTo_q (d := 79) rfl rfl ev_move) ?_
      refine awpl_no (d := 79) rfl rfl rfl rfl ?_
      refine awpl_op rfl (opTo_q (d := 81) rfl rfl (ev_pick_f rfl rfl)) ?_
      refine awpl_op rfl (opTo_q (d := 0) rfl rfl ev_assign) ?_
      refine awpl_nil ?_
      cases hr
      exact joinK_normal _ rfl (frLe_cons rfl frLe_nil) stoLe_nil
  · rintro _ rfl
    have hr := hy
    clear hx hy
    refine awp_ret ?_
    cases hr
    exact kret' rfl (.cons (res_tmp rfl) .nil) rfl
end Go.Proofs.Ytlpmbmilnoncdaa

/- A function of the program computes what its Lean function does. Written by program. -/
namespace Go.Proofs.Ytlpmbmilnoncdaa
open Go.RowKit
set_option maxRecDepth 100000
set_option maxHeartbeats 40000000
set_option linter.unusedVariables false
theorem R_In_run (a0 : Int) (a1 : Int) (a2 : Int) (r : Bool) (hr : R_In a0 a1 a2 = some r) : Run Try.prog 18 [.i a0, .i a1, .i a2] (.bo r) := by
  unfold R_In at hr
  refine run_of_awp (fn := Try.f18) ⟨Try.func18, rfl, by kernel_rfl⟩ rfl (fun _ => rfl) fun g0 hg => ?_
  refine awp_seq ?_
  refine awp_region ?_
  refine awpl_op rfl (opTo_q (d := 6) rfl rfl ev_assign) ?_
  refine awpl_nil ?_
  refine kthen_normal ?_
  obtain ⟨j1, hx, hy⟩ := bind_some hr
  refine awp_join (fun j1 => [(6, .bo j1)]) (fun j1 => []) (fun z => j1 = z) ?_ ?_
  · have hr := hx
    clear hx hy
    refine awp_region ?_
    refine awpl_op rfl (opTo_q (d := 7) rfl rfl ev_move) ?_
    refine awpl_op rfl (opTo_q (d := 8) rfl rfl ev_move) ?_
    refine awpl_op rfl (opTo_q (d := 9) rfl rfl (ev_geq rfl rfl)) ?_
    refine awpl_op rfl (opTo_q (d := 10) rfl rfl ev_move) ?_
    refine bool_split (decide (a1 ≤ a0)) (fun c2 => ?_) (fun c2 => ?_)
    · replace hr := cond_t c2 hr
      refine awpl_yes (d := 10) rfl rfl rfl c2 (opTo_q (d := 11) rfl rfl ev_move) ?_
      refine awpl_yes (d := 10) rfl rfl rfl c2 (opTo_q (d := 12) rfl rfl ev_move) ?_
      refine awpl_yes (d := 10) rfl rfl rfl c2 (opTo_q (d := 13) rfl rfl (ev_leq rfl rfl)) ?_
      refine awpl_op rfl (opTo_q (d := 14) rfl rfl (ev_pick_t rfl c2)) ?_
      refine awpl_op rfl (opTo_q (d := 6) rfl rfl ev_assign) ?_
      refine awpl_nil ?_
      cases hr
      exact joinK_normal _ rfl (frLe_cons rfl frLe_nil) stoLe_nil
    · replace hr := cond_f c2 hr
      refine awpl_no (d := 10) rfl rfl rfl c2 ?_
      refine awpl_no (d := 10) rfl rfl rfl c2 ?_
      refine awpl_no (d := 10) rfl rfl rfl c2 ?_
      refine awpl_op rfl (opTo_q (d := 14) rfl rfl (ev_pick_f rfl c2)) ?_
      refine awpl_op rfl (opTo_q (d := 6) rfl rfl ev_assign) ?_
      refine awpl_nil ?_
      cases hr
      exact joinK_normal _ rfl (frLe_cons rfl frLe_nil) stoLe_nil
  · rintro _ rfl
    have hr := hy
    clear hx hy
    refine awp_ret ?_
    cases hr
    exact kret' rfl (.cons (res_tmp rfl) .nil) rfl
end Go.Proofs.Ytlpmbmilnoncdaa

/- A function of the program computes what its Lean function does. Written by program. -/
namespace Go.Proofs.Ytlpmbmilnoncdaa
open Go.RowKit
set_option maxRecDepth 100000
set_option maxHeartbeats 40000000
set_option linter.unusedVariables false
theorem L_LinesArriveAsSent_run (a0 : List UInt8) (a1 : List UInt8) (a2 : Int) (r : Bool) (hr : L_LinesArriveAsSent a0 a1 a2 = some r) : Run Try.prog 8 [.l cU a0, .l cU a1, .i a2] (.bo r) := by
  unfold L_LinesArriveAsSent at hr
  refine run_of_awp (fn := Try.f8) ⟨Try.func8, rfl, by kernel_rfl⟩ rfl (fun _ => rfl) fun g0 hg => ?_
  refine awp_seq ?_
  refine awp_region ?_
  refine awpl_op rfl (opTo_q (d := 6) rfl rfl ev_assign) ?_
  refine awpl_nil ?_
  refine kthen_normal ?_
  refine awp_seq ?_
  refine awp_region ?_
  refine awpl_op rfl (opTo_q (d := 19) rfl rfl ev_move) ?_
  obtain ⟨v1, h2, hr⟩ := bind_some hr
  refine awpl_op rfl (opTo_call (k := 20) (lines_Stuff_run a0 v1 h2) rfl rfl) ?_
  refine awpl_op rfl (opTo_q (d := 18) rfl rfl ev_move) ?_
  refine awpl_op rfl (opTo_q (d := 21) rfl rfl (ev_extract rfl rfl)) ?_
  refine awpl_op rfl (opTo_q (d := 22) rfl rfl (ev_extract rfl rfl)) ?_
  refine awpl_op rfl (opTo_alloc (k := 8) 8 rfl ty_api_Fault (.inr ⟨rfl, rfl⟩) rfl rfl rfl) ?_
  refine awpl_op rfl (opTo_q (d := 7) rfl rfl ev_assign) ?_
  refine awpl_op rfl (opTo_store rfl rfl rfl ty_api_Fault rfl rfl) ?_
  refine awpl_nil ?_
  refine kthen_normal ?_
  refine awp_seq ?_
  obtain ⟨j3, hx, hy⟩ := bind_some hr
  refine awp_join (fun j3 => [(0, .l cU a0), (1, .l cU a1), (2, .i a2), (7, .l cU v1.1), (8, .ptr 8 0), (34, .bo j3)]) (fun j3 => [(8, .cells [.i v1.2.Code, .i v1.2.Index])]) (fun z => j3 = z) ?_ ?_
  · have hr := hx
    clear hx hy
    refine awp_region ?_
    obtain ⟨v4, h5, hr⟩ := bind_some hr
    refine awpl_op rfl (opTo_call (k := 23) (L_splits_run  v4 h5) rfl rfl) ?_
    refine awpl_op rfl (opTo_q (d := 24) rfl rfl (ev_not rfl)) ?_
    refine awpl_op rfl (opTo_q (d := 25) rfl rfl ev_move) ?_
    refine bool_split ((!v4)) (fun c6 => ?_) (fun c6 => ?_)
    · replace hr := cond_t c6 hr
      refine awpl_no (d := 25) rfl rfl rfl c6 ?_
      refine awpl_no (d := 25) rfl rfl rfl c6 ?_
      refine awpl_no (d := 25) rfl rfl rfl c6 ?_
      refine awpl_op rfl (opTo_q (d := 29) rfl rfl (ev_pick_t rfl c6)) ?_
      refine awpl_op rfl (opTo_q (d := 30) rfl rfl ev_move) ?_
      refine awpl_no (d := 30) rfl rfl rfl rfl ?_
      refine awpl_no (d := 30) rfl rfl rfl rfl ?_
      refine awpl_no (d := 30) rfl rfl rfl rfl ?_
      refine awpl_op rfl (opTo_q (d := 34) rfl rfl (ev_pick_t rfl rfl)) ?_
      refine awpl_nil ?_
      cases hr
      exact joinK_normal _ rfl (frLe_cons rfl (frLe_cons rfl (frLe_cons rfl (frLe_cons rfl (frLe_cons rfl (frLe_cons rfl frLe_nil)))))) (stoLe_cons rfl stoLe_nil)
    · replace hr := cond_f c6 hr
      refine awpl_yes (d := 25) rfl rfl rfl c6 (opTo_q (d := 26) rfl rfl (ev_fieldAddr rfl ty_api_Fault.u rfl ty_int rfl)) ?_
      refine awpl_yes (d := 25) rfl rfl rfl c6 (opTo_q (d := 27) rfl rfl (ev_load rfl rfl ty_int rfl rfl)) ?_
      refine awpl_yes (d := 25) rfl rfl rfl c6 (opTo_q (d := 28) rfl rfl (ev_neq rfl rfl)) ?_
      refine awpl_op rfl (opTo_q (d := 29) rfl rfl (ev_pick_f rfl c6)) ?_
      refine awpl_op rfl (opTo_q (d := 30) rfl rfl ev_move) ?_
      refine bool_split ((v1.2.Code != 0)) (fun c7 => ?_) (fun c7 => ?_)
      · replace hr := cond_t c7 hr
        refine awpl_no (d := 30) rfl rfl rfl c7 ?_
        refine awpl_no (d := 30) rfl rfl rfl c7 ?_
        refine awpl_no (d := 30) rfl rfl rfl c7 ?_
        refine awpl_op rfl (opTo_q (d := 34) rfl rfl (ev_pick_t rfl c7)) ?_
        refine awpl_nil ?_
        cases hr
        exact joinK_normal _ rfl (frLe_cons rfl (frLe_cons rfl (frLe_cons rfl (frLe_cons rfl (frLe_cons rfl (frLe_cons rfl frLe_nil)))))) (stoLe_cons rfl stoLe_nil)
      · replace hr := cond_f c7 hr
        refine awpl_yes (d := 30) rfl rfl rfl c7 (opTo_q (d := 31) rfl rfl ev_move) ?_
        refine awpl_yes (d := 30) rfl rfl rfl c7 (opTo_q (d := 32) rfl rfl (ev_llen (f := cU) rfl ty_s_uint8.u)) ?_
        refine awpl_yes (d := 30) rfl rfl rfl c7 (opTo_q (d := 33) rfl rfl (ev_gtr rfl rfl)) ?_
        refine awpl_op rfl (opTo_q (d := 34) rfl rfl (ev_pick_f rfl c7)) ?_
        refine awpl_nil ?_
        cases hr
        exact joinK_normal _ rfl (frLe_cons rfl (frLe_cons rfl (frLe_cons rfl (frLe_cons rfl (frLe_cons rfl (frLe_cons rfl frLe_nil)))))) (stoLe_cons rfl stoLe_nil)
  · rintro _ rfl
    have hr := hy
    clear hx hy
    refine awp_cond rfl (fun c8 => ?_) (fun c8 => ?_)
    · replace hr := cond_t c8 hr
      obtain ⟨j9, hx, hy⟩ := bind_some hr
      refine awp_join (fun j9 => [(6, .bo j9)]) (fun j9 => []) (fun z => j9 = z) ?_ ?_
      · have hr := hx
        clear hx hy
        refine awp_region ?_
        obtain ⟨v10, h11, hr⟩ := bind_some hr
        refine awpl_op rfl (opTo_call (k := 35) (L_splits_run  v10 h11) rfl rfl) ?_
        refine awpl_op rfl (opTo_q (d := 36) rfl rfl ev_move) ?_
        refine bool_split v10 (fun c12 => ?_) (fun c12 => ?_)
        · replace hr := cond_t c12 hr
          refine awpl_yes (d := 36) rfl rfl rfl c12 (opTo_q (d := 37) rfl rfl (ev_fieldAddr rfl ty_api_Fault.u rfl ty_int rfl)) ?_
          refine awpl_yes (d := 36) rfl rfl rfl c12 (opTo_q (d := 38) rfl rfl (ev_load rfl rfl ty_int rfl rfl)) ?_
          refine awpl_yes (d := 36) rfl rfl rfl c12 (opTo_q (d := 39) rfl rfl (ev_eql rfl rfl)) ?_
          refine awpl_yes (d := 36) rfl rfl rfl c12 (opTo_q (d := 40) rfl rfl ev_move) ?_
          refine bool_split ((v1.2.Code == 0)) (fun c13 => ?_) (fun c13 => ?_)
          · replace hr := cond_t c13 hr
            refine awpl_no (d := 40) rfl rfl rfl c13 ?_
            refine awpl_no (d := 40) rfl rfl rfl c13 ?_
            refine awpl_no (d := 40) rfl rfl rfl c13 ?_
            refine awpl_yes (d := 36) rfl rfl rfl c12 (opTo_q (d := 44) rfl rfl (ev_pick_t rfl c13)) ?_
            refine awpl_op rfl (opTo_q (d := 45) rfl rfl (ev_pick_t rfl c12)) ?_
            refine awpl_op rfl (opTo_q (d := 6) rfl rfl ev_assign) ?_
            refine awpl_nil ?_
            cases hr
            exact joinK_normal _ rfl (frLe_cons rfl frLe_nil) stoLe_nil
          · replace hr := cond_f c13 hr
            refine awpl_yes (d := 40) rfl rfl rfl c13 (opTo_q (d := 41) rfl rfl ev_move) ?_
            refine awpl_yes (d := 40) rfl rfl rfl c13 (opTo_q (d := 42) rfl rfl (ev_llen (f := cU) rfl ty_s_uint8.u)) ?_
            refine awpl_yes (d := 40) rfl rfl rfl c13 (opTo_q (d := 43) rfl rfl (ev_eql rfl rfl)) ?_
            refine awpl_yes (d := 36) rfl rfl rfl c12 (opTo_q (d := 44) rfl rfl (ev_pick_f rfl c13)) ?_
            refine awpl_op rfl (opTo_q (d := 45) rfl rfl (ev_pick_t rfl c12)) ?_
            refine awpl_op rfl (opTo_q (d := 6) rfl rfl ev_assign) ?_
            refine awpl_nil ?_
            cases hr
            exact joinK_normal _ rfl (frLe_cons rfl frLe_nil) stoLe_nil
        · replace hr := cond_f c12 hr
          refine awpl_no (d := 36) rfl rfl rfl c12 ?_
          refine awpl_no (d := 36) rfl rfl rfl c12 ?_
          refine awpl_no (d := 36) rfl rfl rfl c12 ?_
          refine awpl_no (d := 36) rfl rfl rfl c12 ?_
          refine awpl_none (d := 40) rfl rfl rfl ?_
          refine awpl_none (d := 40) rfl rfl rfl ?_
          refine awpl_none (d := 40) rfl rfl rfl ?_
          refine awpl_no (d := 36) rfl rfl rfl c12 ?_
          refine awpl_op rfl (opTo_q (d := 45) rfl rfl (ev_pick_f rfl c12)) ?_
          refine awpl_op rfl (opTo_q (d := 6) rfl rfl ev_assign) ?_
          refine awpl_nil ?_
          cases hr
          exact joinK_normal _ rfl (frLe_cons rfl frLe_nil) stoLe_nil
      · rintro _ rfl
        have hr := hy
        clear hx hy
        refine awp_ret ?_
        refine kthen_ret ?_
        cases hr
        exact kret' rfl (.cons (res_tmp rfl) .nil) rfl
    · replace hr := cond_f c8 hr
      refine awp_skip ?_
      refine kthen_normal ?_
      refine awp_seq ?_
      refine awp_region ?_
      refine awpl_op rfl (opTo_q (d := 9) rfl rfl ev_assign) ?_
      refine awpl_adopt 1009 (d := 9) 5 1 rfl rfl rfl ?_
      refine awpl_nil ?_
      refine kthen_normal ?_
      refine awp_seq ?_
      refine awp_region ?_
      refine awpl_op rfl (opTo_q (d := 46) rfl rfl ev_move) ?_
      refine awpl_op rfl (opTo_q (d := 47) rfl rfl ev_move) ?_
      obtain ⟨v14, h15, hr⟩ := bind_some hr
      refine awpl_op rfl (opTo_append (k := 48) (F := cU) (l := (([] : List UInt8))) (xs := v1.1) (lim := 140737488355328) rfl rfl rfl rfl ty_s_uint8 ty_uint8 rfl rfl (fun _ => rfl) rfl h15) ?_
      refine awpl_op rfl (opTo_q (d := 9) rfl rfl ev_assign) ?_
      refine awpl_nil ?_
      refine kthen_normal ?_
      refine awp_seq ?_
      refine awp_region ?_
      refine awpl_op rfl (opTo_q (d := 49) rfl rfl ev_move) ?_
      refine awpl_op rfl (opTo_q (d := 50) rfl rfl ev_move) ?_
      obtain ⟨v16, h17, hr⟩ := bind_some hr
      refine awpl_op rfl (opTo_append (k := 51) (F := cU) (l := v14) (xs := a1) (lim := 140737488355328) rfl rfl rfl rfl ty_s_uint8 ty_uint8 rfl rfl (fun _ => rfl) rfl h17) ?_
      refine awpl_op rfl (opTo_q (d := 9) rfl rfl ev_assign) ?_
      refine awpl_nil ?_
      refine kthen_normal ?_
      refine awp_seq ?_
      refine awp_region ?_
      refine awpl_op rfl (opTo_q (d := 53) rfl rfl ev_move) ?_
      refine awpl_pub (d := 53) (F := cU) (l := v16) rfl rfl ?_
      obtain ⟨v18, h19, hr⟩ := bind_some hr
      refine awpl_op rfl (opTo_call (k := 54) (lines_Unstuff_run v16 v18 h19) rfl rfl) ?_
      refine awpl_op rfl (opTo_q (d := 52) rfl rfl ev_move) ?_
      refine awpl_op rfl (opTo_q (d := 55) rfl rfl (ev_extract rfl rfl)) ?_
      refine awpl_op rfl (opTo_q (d := 56) rfl rfl (ev_extract rfl rfl)) ?_
      refine awpl_op rfl (opTo_q (d := 57) rfl rfl (ev_extract rfl rfl)) ?_
      refine awpl_op rfl (opTo_q (d := 58) rfl rfl (ev_extract rfl rfl)) ?_
      refine awpl_op rfl (opTo_alloc (k := 13) 13 rfl ty_api_Fault (.inr ⟨rfl, rfl⟩) rfl rfl rfl) ?_
      refine awpl_op rfl (opTo_q (d := 10) rfl rfl ev_assign) ?_
      refine awpl_op rfl (opTo_q (d := 11) rfl rfl ev_assign) ?_
      refine awpl_op rfl (opTo_q (d := 12) rfl rfl ev_assign) ?_
      refine awpl_op rfl (opTo_store rfl rfl rfl ty_api_Fault rfl rfl) ?_
      refine awpl_nil ?_
      refine kthen_normal ?_
      refine awp_seq ?_
      obtain ⟨j20, hx, hy⟩ := bind_some hr
      refine awp_join (fun j20 => [(2, .i a2), (7, .l cU v1.1), (78, .bo j20)]) (fun j20 => []) (fun z => j20 = z) ?_ ?_
      · have hr := hx
        clear hx hy
        refine awp_region ?_
        refine awpl_op rfl (opTo_q (d := 59) rfl rfl (ev_fieldAddr rfl ty_api_Fault.u rfl ty_int rfl)) ?_
        refine awpl_op rfl (opTo_q (d := 60) rfl rfl (ev_load rfl rfl ty_int rfl rfl)) ?_
        refine awpl_op rfl (opTo_q (d := 61) rfl rfl (ev_neq rfl rfl)) ?_
        refine awpl_op rfl (opTo_q (d := 62) rfl rfl ev_move) ?_
        refine bool_split ((v18.2.2.2.Code != 0)) (fun c21 => ?_) (fun c21 => ?_)
        · replace hr := cond_t c21 hr
          refine awpl_no (d := 62) rfl rfl rfl c21 ?_
          refine awpl_no (d := 62) rfl rfl rfl c21 ?_
          refine awpl_op rfl (opTo_q (d := 65) rfl rfl (ev_pick_t rfl c21)) ?_
          refine awpl_op rfl (opTo_q (d := 66) rfl rfl ev_move) ?_
          refine awpl_no (d := 66) rfl rfl rfl rfl ?_
          refine awpl_no (d := 66) rfl rfl rfl rfl ?_
          refine awpl_no (d := 66) rfl rfl rfl rfl ?_
          refine awpl_no (d := 66) rfl rfl rfl rfl ?_
          refine awpl_op rfl (opTo_q (d := 71) rfl rfl (ev_pick_t rfl rfl)) ?_
          refine awpl_op rfl (opTo_q (d := 72) rfl rfl ev_move) ?_
          refine awpl_no (d := 72) rfl rfl rfl rfl ?_
          refine awpl_no (d := 72) rfl rfl rfl rfl ?_
          refine awpl_no (d := 72) rfl rfl rfl rfl ?_
          refine awpl_no (d := 72) rfl rfl rfl rfl ?_
          refine awpl_no (d := 72) rfl rfl rfl rfl ?_
          refine awpl_op rfl (opTo_q (d := 78) rfl rfl (ev_pick_t rfl rfl)) ?_
          refine awpl_nil ?_
          cases hr
          exact joinK_normal _ rfl (frLe_cons rfl (frLe_cons rfl (frLe_cons rfl frLe_nil))) stoLe_nil
        · replace hr := cond_f c21 hr
          refine awpl_yes (d := 62) rfl rfl rfl c21 (opTo_q (d := 63) rfl rfl ev_move) ?_
          refine awpl_yes (d := 62) rfl rfl rfl c21 (opTo_q (d := 64) rfl rfl (ev_not rfl)) ?_
          refine awpl_op rfl (opTo_q (d := 65) rfl rfl (ev_pick_f rfl c21)) ?_
          refine awpl_op rfl (opTo_q (d := 66) rfl rfl ev_move) ?_
          refine bool_split ((!v18.2.2.1)) (fun c22 => ?_) (fun c22 => ?_)
          · replace hr := cond_t c22 hr
            refine awpl_no (d := 66) rfl rfl rfl c22 ?_
            refine awpl_no (d := 66) rfl rfl rfl c22 ?_
            refine awpl_no (d := 66) rfl rfl rfl c22 ?_
            refine awpl_no (d := 66) rfl rfl rfl c22 ?_
            refine awpl_op rfl (opTo_q (d := 71) rfl rfl (ev_pick_t rfl c22)) ?_
            refine awpl_op rfl (opTo_q (d := 72) rfl rfl ev_move) ?_
            refine awpl_no (d := 72) rfl rfl rfl rfl ?_
            refine awpl_no (d := 72) rfl rfl rfl rfl ?_
            refine awpl_no (d := 72) rfl rfl rfl rfl ?_
            refine awpl_no (d := 72) rfl rfl rfl rfl ?_
            refine awpl_no (d := 72) rfl rfl rfl rfl ?_
            refine awpl_op rfl (opTo_q (d := 78) rfl rfl (ev_pick_t rfl rfl)) ?_
            refine awpl_nil ?_
            cases hr
            exact joinK_normal _ rfl (frLe_cons rfl (frLe_cons rfl (frLe_cons rfl frLe_nil))) stoLe_nil
          · replace hr := cond_f c22 hr
            refine awpl_yes (d := 66) rfl rfl rfl c22 (opTo_q (d := 67) rfl rfl ev_move) ?_
            refine awpl_yes (d := 66) rfl rfl rfl c22 (opTo_q (d := 68) rfl rfl ev_move) ?_
            refine awpl_yes (d := 66) rfl rfl rfl c22 (opTo_q (d := 69) rfl rfl (ev_llen (f := cU) rfl ty_s_uint8.u)) ?_
            refine awpl_yes (d := 66) rfl rfl rfl c22 (opTo_q (d := 70) rfl rfl (ev_neq rfl rfl)) ?_
            refine awpl_op rfl (opTo_q (d := 71) rfl rfl (ev_pick_f rfl c22)) ?_
            refine awpl_op rfl (opTo_q (d := 72) rfl rfl ev_move) ?_
            refine bool_split ((v18.2.1 != (v1.1.length : Int))) (fun c23 => ?_) (fun c23 => ?_)
            · replace hr := cond_t c23 hr
              refine awpl_no (d := 72) rfl rfl rfl c23 ?_
              refine awpl_no (d := 72) rfl rfl rfl c23 ?_
              refine awpl_no (d := 72) rfl rfl rfl c23 ?_
              refine awpl_no (d := 72) rfl rfl rfl c23 ?_
              refine awpl_no (d := 72) rfl rfl rfl c23 ?_
              refine awpl_op rfl (opTo_q (d := 78) rfl rfl (ev_pick_t rfl c23)) ?_
              refine awpl_nil ?_
              cases hr
              exact joinK_normal _ rfl (frLe_cons rfl (frLe_cons rfl (frLe_cons rfl frLe_nil))) stoLe_nil
            · replace hr := cond_f c23 hr
              refine awpl_yes (d := 72) rfl rfl rfl c23 (opTo_q (d := 73) rfl rfl ev_move) ?_
              refine awpl_yes (d := 72) rfl rfl rfl c23 (opTo_q (d := 74) rfl rfl (ev_bytes2s rfl ty_s_uint8 ty_uint8 ty_string)) ?_
              refine awpl_yes (d := 72) rfl rfl rfl c23 (opTo_q (d := 75) rfl rfl ev_move) ?_
              refine awpl_yes (d := 72) rfl rfl rfl c23 (opTo_q (d := 76) rfl rfl (ev_bytes2s rfl ty_s_uint8 ty_uint8 ty_string)) ?_
              refine awpl_yes (d := 72) rfl rfl rfl c23 (opTo_q (d := 77) rfl rfl (ev_sneq (a := v18.1) (b := a0) rfl rfl)) ?_
              refine awpl_op rfl (opTo_q (d := 78) rfl rfl (ev_pick_f rfl c23)) ?_
              refine awpl_nil ?_
              cases hr
              exact joinK_normal _ rfl (frLe_cons rfl (frLe_cons rfl (frLe_cons rfl frLe_nil))) stoLe_nil
      · rintro _ rfl
        have hr := hy
        clear hx hy
        refine awp_cond rfl (fun c24 => ?_) (fun c24 => ?_)
        · replace hr := cond_t c24 hr
          refine awp_seq ?_
          refine awp_region ?_
          refine awpl_op rfl (opTo_q (d := 6) rfl rfl ev_assign) ?_
          refine awpl_nil ?_
          refine kthen_normal ?_
          refine awp_ret ?_
          refine kthen_ret ?_
          cases hr
          exact kret' rfl (.cons (res_tmp rfl) .nil) rfl
        · replace hr := cond_f c24 hr
          refine awp_skip ?_
          refine kthen_normal ?_
          refine awp_seq ?_
          refine awp_seq ?_
          refine awp_region ?_
          refine awpl_op rfl (opTo_q (d := 79) rfl rfl ev_move) ?_
          refine awpl_op rfl (opTo_q (d := 80) rfl rfl ev_move) ?_
          refine awpl_op rfl (opTo_q (d := 81) rfl rfl (ev_llen (f := cU) rfl ty_s_uint8.u)) ?_
          refine awpl_op rfl (opTo_q (d := 82) rfl rfl (ev_sub rfl rfl)) ?_
          obtain ⟨v25, h26, hr⟩ := bind_some hr
          refine awpl_op rfl (opTo_call (k := 83) (R_In_run a2 0 ((w64 ((v1.1.length : Int) - 1))) v25 h26) rfl rfl) ?_
          refine awpl_op rfl (opTo_q (d := 84) rfl rfl (ev_not rfl)) ?_
          refine awpl_nil ?_
          refine kthen_normal ?_
          refine awp_cond rfl (fun c27 => ?_) (fun c27 => ?_)
          · replace hr := cond_t c27 hr
            refine awp_seq ?_
            refine awp_region ?_
            refine awpl_op rfl (opTo_q (d := 6) rfl rfl ev_assign) ?_
            refine awpl_nil ?_
            refine kthen_normal ?_
            refine awp_ret ?_
            refine kthen_ret ?_
            cases hr
            exact kret' rfl (.cons (res_tmp rfl) .nil) rfl
          · replace hr := cond_f c27 hr
            refine awp_skip ?_
            refine kthen_normal ?_
            refine awp_seq ?_
            refine awp_region ?_
            refine awpl_op rfl (opTo_q (d := 86) rfl rfl ev_move) ?_
            refine awpl_op rfl (opTo_q (d := 87) rfl rfl ev_move) ?_
            obtain ⟨v28, h29, hr⟩ := bind_some hr
            refine awpl_op rfl (opTo_q (d := 88) rfl rfl (ev_cutH (F := cU) rfl rfl ty_s_uint8 ty_uint8 (fun _ => rfl) h29)) ?_
            obtain ⟨v30, h31, hr⟩ := bind_some hr
            refine awpl_op rfl (opTo_call (k := 89) (lines_Unstuff_run v28 v30 h31) rfl rfl) ?_
            refine awpl_op rfl (opTo_q (d := 85) rfl rfl ev_move) ?_
            refine awpl_op rfl (opTo_q (d := 90) rfl rfl (ev_extract rfl rfl)) ?_
            refine awpl_op rfl (opTo_q (d := 91) rfl rfl (ev_extract rfl rfl)) ?_
            refine awpl_op rfl (opTo_q (d := 92) rfl rfl (ev_extract rfl rfl)) ?_
            refine awpl_op rfl (opTo_q (d := 93) rfl rfl (ev_extract rfl rfl)) ?_
            refine awpl_op rfl (opTo_alloc (k := 17) 17 rfl ty_api_Fault (.inr ⟨rfl, rfl⟩) rfl rfl rfl) ?_
            refine awpl_op rfl (opTo_q (d := 14) rfl rfl ev_assign) ?_
            refine awpl_op rfl (opTo_q (d := 15) rfl rfl ev_assign) ?_
            refine awpl_op rfl (opTo_q (d := 16) rfl rfl ev_assign) ?_
            refine awpl_op rfl (opTo_store rfl rfl rfl ty_api_Fault rfl rfl) ?_
            refine awpl_nil ?_
            refine kthen_normal ?_
            obtain ⟨j32, hx, hy⟩ := bind_some hr
            refine awp_join (fun j32 => [(6, .bo j32)]) (fun j32 => []) (fun z => j32 = z) ?_ ?_
            · have hr := hx
              clear hx hy
              refine awp_region ?_
              refine awpl_op rfl (opTo_q (d := 94) rfl rfl (ev_fieldAddr rfl ty_api_Fault.u rfl ty_int rfl)) ?_
              refine awpl_op rfl (opTo_q (d := 95) rfl rfl (ev_load rfl rfl ty_int rfl rfl)) ?_
              refine awpl_op rfl (opTo_q (d := 96) rfl rfl (ev_eql rfl rfl)) ?_
              refine awpl_op rfl (opTo_q (d := 97) rfl rfl ev_move) ?_
              refine bool_split ((v30.2.2.2.Code == 0)) (fun c33 => ?_) (fun c33 => ?_)
              · replace hr := cond_t c33 hr
                refine awpl_yes (d := 97) rfl rfl rfl c33 (opTo_q (d := 98) rfl rfl ev_move) ?_
                refine awpl_yes (d := 97) rfl rfl rfl c33 (opTo_q (d := 99) rfl rfl (ev_not rfl)) ?_
                refine awpl_op rfl (opTo_q (d := 100) rfl rfl (ev_pick_t rfl c33)) ?_
                refine awpl_op rfl (opTo_q (d := 6) rfl rfl ev_assign) ?_
                refine awpl_nil ?_
                cases hr
                exact joinK_normal _ rfl (frLe_cons rfl frLe_nil) stoLe_nil
              · replace hr := cond_f c33 hr
                refine awpl_no (d := 97) rfl rfl rfl c33 ?_
                refine awpl_no (d := 97) rfl rfl rfl c33 ?_
                refine awpl_op rfl (opTo_q (d := 100) rfl rfl (ev_pick_f rfl c33)) ?_
                refine awpl_op rfl (opTo_q (d := 6) rfl rfl ev_assign) ?_
                refine awpl_nil ?_
                cases hr
                exact joinK_normal _ rfl (frLe_cons rfl frLe_nil) stoLe_nil
            · rintro _ rfl
              have hr := hy
              clear hx hy
              refine awp_ret ?_
              cases hr
              exact kret' rfl (.cons (res_tmp rfl) .nil) rfl
end Go.Proofs.Ytlpmbmilnoncdaa

/- Small facts that all my walks use: endings, blocks, rows, frames. No program is named. -/
namespace Go.Proofs.Ytlpmbmilnoncdaa
open Go.RowKit

theorem ret_bool {a b : Bool} (h : a = b) : Ending.returned (.bool a) = .returned (.bool b) := by rw [h]
theorem ret_int {k : IntKind} {a b : Int} (h : a = b) : Ending.returned (.int k a) = .returned (.int k b) := by rw [h]

theorem take_all {α : Type} (p : α → Bool) (l : List α) (k : Nat) (h : k < l.length) : (l.take (k + 1)).all p = ((l.take k).all p && p l[k]) := by
  rw [List.take_succ_eq_append_getElem h, List.all_append]; simp
theorem all_false {α : Type} (p : α → Bool) (l : List α) (k : Nat) (h : k < l.length) (hp : p l[k] = false) : l.all p = false := by
  rw [List.all_eq_false]; exact ⟨l[k], List.getElem_mem h, by simp [hp]⟩

theorem bcell {W w1 : World} (hb : Below W.heap.size W w1) : (∀ b o, b < W.heap.size → w1.cell? ⟨b, o, none⟩ = W.cell? ⟨b, o, none⟩) ∧ (∀ b o, b < W.heap.size → w1.frozen? ⟨b, o, none⟩ = W.frozen? ⟨b, o, none⟩) :=
  ⟨fun b o h => hb.cell (p := ⟨b, o, none⟩) h, fun b o h => hb.frozen (p := ⟨b, o, none⟩) h⟩


/-- block b is just these cells, none frozen -/
def Blk (w : World) (b : Nat) (t : TypeId) (cs : Array Value) : Prop := w.heap[b]? = some (.cells cs t (0, 0))
theorem Blk.lt {w : World} {b : Nat} {t : TypeId} {cs : Array Value} (h : Blk w b t cs) : b < w.heap.size := by
  rcases Nat.lt_or_ge b w.heap.size with hlt | hge
  · exact hlt
  · unfold Blk at h; rw [Array.getElem?_eq_none hge] at h; cases h
theorem Blk.two {w : World} {b : Nat} {t : TypeId} {x y : Value} (h : Blk w b t #[x, y]) :
    w.cell? ⟨b, 0, none⟩ = some x ∧ w.cell? ⟨b, 1, none⟩ = some y ∧ w.frozen? ⟨b, 0, none⟩ = false ∧ w.frozen? ⟨b, 1, none⟩ = false ∧ b < w.heap.size := by
  refine ⟨?_, ?_, ?_, ?_, h.lt⟩ <;> unfold Blk at h <;> simp [World.cell?, World.frozen?, h]
theorem Blk.new (w : World) (t : TypeId) (cs : Array Value) : Blk (w.alloc (.cells cs t)) w.heap.size t cs := heap_alloc_new w _
theorem Blk.alloc {w : World} {b : Nat} {t : TypeId} {cs : Array Value} (h : Blk w b t cs) (o : Obj) : Blk (w.alloc o) b t cs := (Below.heap_alloc w o b h.lt).trans h
theorem Blk.below {w w' : World} {b : Nat} {t : TypeId} {cs : Array Value} {B : Nat} (h : Blk w b t cs) (hb : Below B w w') (hg : b < B) : Blk w' b t cs := (hb.block b hg).trans h

theorem val_int {k : IntKind} {a b : Int} (h : a = b) : Value.int k a = .int k b := by rw [h]
theorem tup3 {k : IntKind} {a b : Int} {x y : Value} (h : a = b) : Ending.returned (.tuple #[.int k a, x, y]) = .returned (.tuple #[.int k b, x, y]) := by rw [h]
section
variable {w1 w2 : World} {b t : Nat} {cs : Array Value} {o : Obj}
theorem Blk.step_new (hb : Below (w1.alloc (.cells cs t)).heap.size (w1.alloc (.cells cs t)) w2) : Blk w2 w1.heap.size t cs :=
  (Blk.new w1 t cs).below hb (by simp)
theorem Blk.step_old (h : Blk w1 b t cs) (hb : Below (w1.alloc o).heap.size (w1.alloc o) w2) : Blk w2 b t cs :=
  (h.alloc o).below hb (by have := h.lt; simp; omega)
end
theorem below_step {w w1 w2 : World} {o : Obj} (h : Below w.heap.size w w1) (hb : Below (w1.alloc o).heap.size (w1.alloc o) w2) : Below w.heap.size w w2 :=
  (h.alloc h.size o).trans (hb.mono (by have := h.size; simp; omega))
theorem below_trans {w w1 w2 : World} (h : Below w.heap.size w w1) (hb : Below w1.heap.size w1 w2) : Below w.heap.size w w2 :=
  h.trans (hb.mono h.size)

theorem keep2 {W w5 w6 : World} {b : Nat} {x y : Value} (h : w5.cell? ⟨b, 0, none⟩ = some x ∧ w5.cell? ⟨b, 1, none⟩ = some y ∧ Below W.heap.size W w5) (hb : b < W.heap.size) (k : Below w5.heap.size w5 w6) :
    w6.cell? ⟨b, 0, none⟩ = some x ∧ w6.cell? ⟨b, 1, none⟩ = some y ∧ Below W.heap.size W w6 := by
  have hs := h.2.2.size
  exact ⟨(k.cell (p := ⟨b, 0, none⟩) (Nat.lt_of_lt_of_le hb hs)).trans h.1, (k.cell (p := ⟨b, 1, none⟩) (Nat.lt_of_lt_of_le hb hs)).trans h.2.1, below_trans h.2.2 k⟩

/-- a slice of cells, one a value: it holds these values -/
def Row (w : World) (a : Option Addr) (len : Nat) (vs : List Value) : Prop :=
  vs.length = len ∧ (len = 0 ∨ ∃ b off, a = some ⟨b, off, none⟩ ∧ ∀ i v, vs[i]? = some v → w.cell? ⟨b, off + i, none⟩ = some v)


end Go.Proofs.Ytlpmbmilnoncdaa

/- What every law's row wants at its end: arguments of any shape read as they did where nothing that was there has turned. -/
namespace Go.Proofs.Ytlpmbmilnoncdaa
open Go.ChangeShapes Go.WideShapes Go.ChangeAt Go.RowKit
open Go.ChangeMaps (open_string shut_string)

theorem own : ownKnob Try.prog.godebug = none := by kernel_rfl
theorem laidOut : laidOutB Try.prog = true := by kernel_rfl

theorem trodAll_stays {H : Type} {enc : TypeId × Value → H} {P : Program} (hl : laidOutB P = true) {W W' : World} (hb : Below W.heap.size W W') :
    ∀ (ts : List TypeId) (vs : List Value) (ds : List (DataW H)) (ps : List MemPlace), (ts.all fun t => P.readableRec t && decide (t < P.types.size)) = true →
      DataW.TrodAll enc P W 0 (fun _ => true) true ts vs ds ps → DataW.TrodAll enc P W' 0 (fun b => decide (b < W.heap.size)) true ts vs ds ps
  | [], [], [], _, _, h => h
  | t :: ts, v :: vs, d :: ds, ps, hts, ⟨p, q, h, hs, e⟩ => by
    simp only [List.all_cons, Bool.and_eq_true, decide_eq_true_eq] at hts
    have lt : ∀ x ∈ p, x.block < W.heap.size := by obtain ⟨m, hm⟩ := h; exact DataW.trod_lt m _ _ _ hm
    exact ⟨p, q, Below.trod hl hts.1.1 hts.1.2 h hb lt, trodAll_stays hl hb ts vs ds q hts.2 hs, e⟩

/-- THE POST of a law: it returned true, and nothing that was there has turned. -/
theorem post_true {H : Type} {enc : TypeId × Value → H} {P : Program} {f : Func} {s : ChangeSpec} {t : TypeId} (hl : laidOutB P = true) (hres : f.resultTypes = #[t]) (ht : P.underlying t = some .bool)
    (hts : (f.params.toList.all fun t => P.readableRec t && decide (t < P.types.size)) = true) {W W' : World} {args : Array Value} {ds gs : List (DataW H)} {before : List MemPlace} (hv : s.vars = [])
    (hspec : s.fn H (ds ++ gs) = { results := [.lit (.bool true)], args := ds, vars := [] })
    (hW : DataW.Whole enc P f.params.toList s.vars false W args.toList ds gs before) (hb : Below W.heap.size W W') :
    s.post enc P f false true false false W args (.bool true) W' := by
  have hW' := hW
  obtain ⟨p, q, hA, hV, hbe, hfz, hnd⟩ := hW
  refine ⟨ds, gs, before, [], p, [], hW', ?_, ?_, ?_, ?_, fun h => by cases h⟩
  · rw [hspec, hres]; exact trodAll_mk1 (shut_bool ht _)
  · rw [hspec]; exact trodAll_stays hl hb _ _ _ _ hts hA
  · rw [hspec, hv]; rfl
  · have hq : q = [] := by rw [hv] at hV; cases gs with
      | nil => exact hV
      | cons g gs => exact hV.elim
    refine World.keptBut_mono (fun p hp => ⟨hp, ?_⟩) (hb.frame (· ∈ before))
    rw [hbe, hq, List.append_nil] at hp
    exact .inr (.inl hp)

/-- a slice of integers that came in -/
theorem open_row_int {H : Type} {enc : TypeId × Value → H} {P : Program} {W : World} {base : Nat} {t e : TypeId} {k : IntKind} {v : Value} {d : DataW H} {p : List MemPlace} (ht : P.underlying t = some (.slice e)) (he : P.underlying e = some (.int k)) (hc : P.cellsOf e = 1)
    (hok : Value.okWide P W .any base t v) (h : DataW.Trod enc P W 0 (fun _ => true) true t v d p) :
    ∃ (a : Option Addr) (len cap : Nat) (zs : List Int), v = .slice a len cap ∧ len ≤ maxLen ∧ Row W a len (zs.map (Value.int k)) ∧ ∀ z ∈ zs, (Lit.int k z).wf = true := by
  obtain ⟨a, len, cap, rfl⟩ := okWide_slice ht hok
  obtain ⟨fuel, hf⟩ := h
  rcases open_ints ht he hc hf with ⟨hcs, _⟩ | ⟨x, l, c, zs, hcs, _, hl, hm, hz, _, hcell, hwz⟩
  · simp [Value.cells] at hcs
    obtain ⟨rfl, rfl, rfl⟩ := hcs
    exact ⟨none, 0, 0, [], rfl, Nat.zero_le _, ⟨rfl, .inl rfl⟩, by simp⟩
  · simp [Value.cells] at hcs
    obtain ⟨rfl, rfl, rfl⟩ := hcs
    have hz : zs.length = cap := by simpa using hz
    refine ⟨_, len, cap, zs.take len, rfl, Nat.le_trans hl hm, ⟨by simp; omega, ?_⟩, fun z hz => hwz z (List.mem_of_mem_take hz)⟩
    by_cases h0 : len = 0
    · exact .inl h0
    obtain ⟨b, off, spot⟩ := x
    have hc0 := hcell 0 (by omega)
    have hspot : spot = none := by simpa [Addr.add] using World.cell?_spot hc0
    subst hspot
    refine .inr ⟨b, off, rfl, fun i v hv => ?_⟩
    rw [List.getElem?_map, List.getElem?_take] at hv
    by_cases hi : i < len
    · rw [if_pos hi] at hv
      have hi2 : i < zs.length := by omega
      have := hcell i hi2
      rw [List.getElem?_eq_getElem hi2] at hv
      simp only [Option.map_some, Option.some.injEq] at hv
      subst hv
      have ea : (⟨b, off, none⟩ : Addr).add i = ⟨b, off + i, none⟩ := by
        unfold Addr.add
        by_cases h0 : i = 0
        · simp [h0]
        · simp [h0]
      rw [ea] at this
      rw [this]
      simp [hi2]
    · rw [if_neg hi] at hv
      simp at hv

end Go.Proofs.Ytlpmbmilnoncdaa

/- A row's frame for laws that read package variables of the library: the shape of the first world is handed over. -/
namespace Go.Proofs.Ytlpmbmilnoncdaa
open Go.ChangeShapes Go.WideShapes Go.ChangeAt Go.RowKit
theorem returnsInHanded_of_cond_shaped {H : Type} {enc : TypeId × Value → H} {a : Assume} {C : Checked} {os : Os} {f : FuncId} {fn : Func} {s : OpenSpec} {k : (H : Type) → List (DataW H) → Bool} (hk : s.cond = some k) {F : Stop.Interp} {conds : List PathCond} {apart fresh handsOn again : Bool}
    (own : ownKnob C.prog.godebug = none) (started : os.Started) (noInit : C.prog.inits.idxOf? f = none) (hfn : C.prog.funcs[f]? = some fn)
    (witness : ∃ (w : World) (tape : Tape) (i : Input), w.os = os ∧ (w.forCall tape i).Shaped C.prog ∧ i.vars = [] ∧ Input.okWide C.prog (w.forCall tape i) .any w.heap.size f i ∧
      s.pre6 enc C.prog fn conds apart (w.forCall tape i).memory i.args ∧ a.holds C.prog (lone (Frame.enter C.prog f i.args .normal) [] (w.forCall tape i)))
    (contract : ∀ (W : World) (base : Nat) (args : Array Value) (ds gs : List (DataW H)) (before : List MemPlace),
      (∀ (j : Nat) t v, fn.params[j]? = some t → args[j]? = some v → Value.okWide C.prog W .any base t v) →
      DataW.Whole enc C.prog fn.params.toList s.vars apart W args.toList ds gs before →
      conds.all (PathCond.test C.prog ⟨fn.params.toList, ds, s.bare.plain.varTypes C.prog, gs⟩) = true → k H (ds ++ gs) = true →
      W.ShapedOpen C.prog →
      a.holds C.prog (lone (Frame.enter C.prog f args .normal) [] W) →
      Calls C.prog f args W fun e W' => ∃ v, e = .returned v ∧ (s.at F).post enc C.prog fn apart fresh handsOn again W args v W') :
    ReturnsInHanded a C os f .any (s.pre6 enc C.prog fn conds apart) ((s.at F).post enc C.prog fn apart fresh handsOn again) := by
  refine returnsInHanded_of_calls own started noInit witness ?_
  intro w tape i _ hsh _ hok hpre hholds
  obtain ⟨_, _, _, fn', hfn', _, _, _, _, hval⟩ := hok
  have e : fn' = fn := Option.some.inj (hfn'.symm.trans hfn)
  subst e
  obtain ⟨ds, gs, before, hw, hc, hkk⟩ := (OpenSpec.pre_some hk conds apart _ _).1 hpre.1
  refine (contract (w.forCall tape i) w.heap.size i.args ds gs before hval (DataW.Whole.of_heap (w' := w.forCall tape i) (by rfl) hw) hc hkk hsh hholds).mono fun e W' ⟨v, he, hp⟩ => ?_
  subst he
  exact ChangeSpec.post_blind hp
theorem gl_of_shaped {W : World} (h : W.ShapedOpen Try.prog) : Gl (gAll W) := by
  intro p hp
  simp only [globs, List.mem_cons, List.not_mem_nil, or_false] at hp
  subst hp
  obtain ⟨m, hm⟩ := cell_of_shapedOpen_int (P := Try.prog) (g := 0) (t := 3) (zero := #[.int .i64 0]) h (of_decide_eq_true (by kernel_rfl)) (by kernel_rfl) rfl (by kernel_rfl) (by kernel_rfl) Try.underlying3
  obtain ⟨h1, h2⟩ := uAll_lt hm
  exact ⟨h2, h1, m, hm⟩
end Go.Proofs.Ytlpmbmilnoncdaa

namespace Go.Proofs.Ytlpmbmilnoncdaa.linesArriveAsSent
open Go.ChangeShapes Go.WideShapes Go.ChangeAt Go.RowKit
set_option linter.unusedVariables false
set_option maxRecDepth 100000

theorem contract (H : Type) (enc : TypeId × Value → H) (W : World) (base : Nat) (args : Array Value) (ds gs : List (DataW H)) (before : List MemPlace)
    (hval : ∀ (j : Nat) t v, Try.f8.params[j]? = some t → args[j]? = some v → Value.okWide Try.prog W .any base t v)
    (hW : DataW.Whole enc Try.prog Try.f8.params.toList Rows.linesArriveAsSentSpec.vars false W args.toList ds gs before) (hk : Rows.uptoSmall H (ds ++ gs) = true) (hgl : Gl (gAll W)) :
    Calls Try.prog 8 args W fun e W' => ∃ v, e = .returned v ∧ Rows.linesArriveAsSentSpec.post enc Try.prog Try.f8 false true false false W args v W' := by
  have hW' := hW
  obtain ⟨p, q, hA0, hV, rfl, hfz, hnd⟩ := hW
  have hA : DataW.TrodAll enc Try.prog W 0 (fun _ => true) true Try.f8.params.toList args.toList ds p := hA0
  rw [Try.params8] at hA hval
  obtain ⟨v0, vs0, d0, ds0, p0, q0, hargs, rfl, rfl, h0, r0⟩ := trodAll_cons hA
  obtain ⟨v1, vs1, d1, ds1, p1, q1, rfl, rfl, rfl, h1, r1⟩ := trodAll_cons r0
  obtain ⟨v2, vs2, d2, ds2, p2, q2, rfl, rfl, rfl, h2, r2⟩ := trodAll_cons r1
  obtain ⟨rfl, rfl, rfl⟩ := trodAll_nil r2
  obtain rfl : args = #[v0, v1, v2] := by cases args; simp_all
  obtain ⟨rfl, rfl⟩ := trodVars_none hV
  obtain ⟨a0, e0, o0, k0⟩ := arg_one op_s_uint8 (by obtain ⟨_, _, _, h⟩ := okWide_slice ty_s_uint8.u (hval 0 _ v0 rfl rfl); rw [h]; rfl) h0
  obtain ⟨a1, e1, o1, k1⟩ := arg_one op_s_uint8 (by obtain ⟨_, _, _, h⟩ := okWide_slice ty_s_uint8.u (hval 1 _ v1 rfl rfl); rw [h]; rfl) h1
  obtain ⟨a2, e2, o2, k2⟩ := arg_one op_int (by obtain ⟨_, h⟩ := okWide_int ty_int.u (hval 2 _ v2 rfl rfl); rw [h]; rfl) h2
  have hk2 := of_decide_eq_true hk
  simp only [List.append_nil, Rows.uptoBulkAll] at hk2
  have ht := L_LinesArriveAsSent_true a0 a1 a2 o0 o1 o2 (by omega)
  have key : Calls Try.prog 8 #[v0, v1, v2] W fun e W' => e = .returned (.bool true) ∧ Below W.heap.size W W' := calls_of_run (L_LinesArriveAsSent_run a0 a1 a2 true ht) hgl (relArgs_of (.cons (e0 _ rfl) (.cons (e1 _ rfl) (.cons (e2 _ rfl) .nil))))
  refine key.mono fun e W' ⟨he, hb⟩ => ⟨_, he, ?_⟩
  exact post_true laidOut (by kernel_rfl) Try.underlying4 (by kernel_rfl) rfl rfl hW' hb

theorem lifted (os : Os) (started : os.Started) (H : Type) (enc : TypeId × Value → H) (F : Stop.Interp) :
    ReturnsInHanded {} Try.checked os 8 .any ((Rows.OpenSpec.upto Rows.linesArriveAsSentSpec).pre6 enc Try.prog Try.f8 Rows.linesArriveAsSentUptoRow.domain false) (((Rows.OpenSpec.upto Rows.linesArriveAsSentSpec).at F).post enc Try.prog Try.f8 false true false false) := by
  refine returnsInHanded_of_cond_shaped (C := Try.checked) (s := Rows.OpenSpec.upto Rows.linesArriveAsSentSpec) (k := Rows.uptoSmall) rfl own started (by kernel_rfl) Try.func8
    (OpenSpec.witness (enc := enc) (C := Try.checked) (s := Rows.OpenSpec.upto Rows.linesArriveAsSentSpec) (k := Rows.uptoSmall) rfl false ⟨#[], #[.slice none 0 0, .slice none 0 0, .int .i64 0], []⟩ 8 (by kernel_rfl) (by kernel_rfl) (by kernel_rfl)
      (x := ([.nil, .nil, .lit (.int .i64 0)], [], [])) (by kernel_rfl) rfl (by kernel_rfl)) ?_
  intro W base args ds gs before hval hW _ hk hsh _
  exact contract H enc W base args ds gs before hval hW hk (gl_of_shaped hsh)

theorem over : Rows.linesArriveAsSentUptoRow.holds Try.pinned (Rows.OpenSpec.upto Rows.linesArriveAsSentSpec) :=
  OpenClaim.holds_of_cond 8 Try.f8 rfl rfl rfl rfl rfl rfl rfl ⟨rfl, rfl, rfl, rfl, rfl⟩ rfl rfl rfl rfl rfl (by kernel_rfl) Try.func8 (by kernel_rfl)
    (of_decide_eq_true (by kernel_rfl)) (by unfold Func.isWrapper; first | (rw [if_pos (by decide +kernel)]; kernel_rfl) | (rw [if_neg (by decide +kernel)]; exact ⟨rfl, rfl⟩))
    (fun os started H enc _ F => lifted os started H enc F)

theorem proved : Rows.LinesArriveAsSentUptoSaid := over
#print axioms proved
end Go.Proofs.Ytlpmbmilnoncdaa.linesArriveAsSent
