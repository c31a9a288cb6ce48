/- The law EnvelopeMergeMatchesSpec holds for every input of bulk up to the given bound: it returns true and leaves its arguments as they were. Written by program. -/
import Derived.Test.YtfhfjckjmacekaaKEnvelopeMergeMatchesSpec1
namespace Go.Proofs.Ytfhfjckjmacekaa
open Go.RowKit
set_option maxRecDepth 100000
set_option maxHeartbeats 40000000
set_option linter.unusedVariables false
theorem envelope_For_run (a0 : TEnvelope) (a1 : Str) (r : TEnvelope × TFault) (hr : envelope_For a0 a1 = some r) : Run Try.prog 11 [.agg [.s a0.From, .l TRecipient.pc a0.To, .s a0.Id], .s a1] (.tup [.agg [.s r.1.From, .l TRecipient.pc r.1.To, .s r.1.Id], .agg [.i r.2.Code, .i r.2.Index]]) := by
 unfold envelope_For at hr
 refine rf (fn := Try.f11) ⟨Try.func11, rfl, by kernel_rfl⟩ rfl (fun _ => rfl) fun g0 hg => ?_
 refine rn tk 12 rfl ?_
 obtain ⟨v1, h2, hr⟩ := bind_some hr
 refine cl (envelope_Validate_run _ _ h2) rfl rfl ?_
 refine rn tk 7 rfl ?_
 obtain ⟨v3, h4, hr⟩ := bind_some hr
 refine cl (basic_Failed_run _ _ h4) rfl rfl ?_
 refine rn tk 2 rfl ?_
 refine ac 10 hr rfl (fun c5 hr => ?_) (fun c5 hr => ?_)
 ·
  refine rn tk 1 rfl ?_
  refine awp_explore [([false, false, false, false], [(4, .ptr 4 0), (5, .ptr 5 0), (6, .ptr 6 0)], [(6, .cells [.i v1.Code, .i v1.Index]), (5, .cells [.i 0, .i 0]), (4, .cells [.s (([] : Str)), .pv (.sl (some true) []), .s (([] : Str))]), (3, .cells [.s a1]), (2, .cells [.s a0.From, .l TRecipient.pc a0.To, .s a0.Id])]), ([true, false, false, false], [(4, .ptr 4 0), (5, .ptr 5 0), (6, .ptr 6 0), (11, .agg [.s (([] : Str)), .pv (.sl (some true) []), .s (([] : Str))])], [(6, .cells [.i v1.Code, .i v1.Index]), (5, .cells [.i 0, .i 0]), (4, .cells [.s (([] : Str)), .pv (.sl (some true) []), .s (([] : Str))]), (3, .cells [.s a1]), (2, .cells [.s a0.From, .l TRecipient.pc a0.To, .s a0.Id])]), ([false, true, false, false], [(4, .ptr 4 0), (5, .ptr 5 0), (6, .ptr 6 0), (12, .agg [.i v1.Code, .i v1.Index])], [(6, .cells [.i v1.Code, .i v1.Index]), (5, .cells [.i 0, .i 0]), (4, .cells [.s (([] : Str)), .pv (.sl (some true) []), .s (([] : Str))]), (3, .cells [.s a1]), (2, .cells [.s a0.From, .l TRecipient.pc a0.To, .s a0.Id])]), ([true, true, false, false], [(4, .ptr 4 0), (5, .ptr 5 0), (6, .ptr 6 0), (11, .agg [.s (([] : Str)), .pv (.sl (some true) []), .s (([] : Str))]), (12, .agg [.i v1.Code, .i v1.Index])], [(6, .cells [.i v1.Code, .i v1.Index]), (5, .cells [.i 0, .i 0]), (4, .cells [.s (([] : Str)), .pv (.sl (some true) []), .s (([] : Str))]), (3, .cells [.s a1]), (2, .cells [.s a0.From, .l TRecipient.pc a0.To, .s a0.Id])]), ([true, false, true, false], [(4, .ptr 4 0), (5, .ptr 5 0), (6, .ptr 6 0), (11, .agg [.s (([] : Str)), .pv (.sl (some true) []), .s (([] : Str))])], [(6, .cells [.i v1.Code, .i v1.Index]), (5, .cells [.i 0, .i 0]), (4, .cells [.s (([] : Str)), .pv (.sl (some true) []), .s (([] : Str))]), (3, .cells [.s a1]), (2, .cells [.s a0.From, .l TRecipient.pc a0.To, .s a0.Id])]), ([true, true, true, false], [(4, .ptr 4 0), (5, .ptr 5 0), (6, .ptr 6 0), (11, .agg [.s (([] : Str)), .pv (.sl (some true) []), .s (([] : Str))]), (12, .agg [.i v1.Code, .i v1.Index])], [(6, .cells [.i v1.Code, .i v1.Index]), (5, .cells [.i 0, .i 0]), (4, .cells [.s (([] : Str)), .pv (.sl (some true) []), .s (([] : Str))]), (3, .cells [.s a1]), (2, .cells [.s a0.From, .l TRecipient.pc a0.To, .s a0.Id])]), ([true, true, true, true], [(4, .ptr 4 0), (5, .ptr 5 0), (6, .ptr 6 0), (11, .agg [.s (([] : Str)), .pv (.sl (some true) []), .s (([] : Str))]), (12, .agg [.i v1.Code, .i v1.Index])], [(6, .cells [.i v1.Code, .i v1.Index]), (5, .cells [.i v1.Code, .i v1.Index]), (4, .cells [.s (([] : Str)), .pv (.sl (some true) []), .s (([] : Str))]), (3, .cells [.s a1]), (2, .cells [.s a0.From, .l TRecipient.pc a0.To, .s a0.Id])])] mixed (by kernel_rfl) rfl rfl (frLe_cons rfl (frLe_cons rfl (frLe_cons rfl frLe_nil))) (stoLe_cons rfl (stoLe_cons rfl (stoLe_cons rfl (stoLe_cons rfl (stoLe_cons rfl stoLe_nil))))) (.cons (.step [0, 1] (by kernel_rfl) rfl (.cons (.yes 1 rfl (wanted_plain rfl) (opTo_q (d := 11) rfl rfl (ev_build (cs := [.s (([] : Str)), .pv (.sl (some true) []), .s (([] : Str))]) ty_api_Envelope pl_api_Envelope (.inr ⟨rfl, rfl⟩) rfl)) rfl (frLe_cons rfl (frLe_cons rfl (frLe_cons rfl (frLe_cons rfl frLe_nil)))) (stoLe_cons rfl (stoLe_cons rfl (stoLe_cons rfl (stoLe_cons rfl (stoLe_cons rfl stoLe_nil)))))) (.cons (.yes 2 rfl (wanted_plain rfl) (opTo_q (d := 12) rfl rfl (ev_loadN rfl rfl ty_api_Fault rfl rfl)) rfl (frLe_cons rfl (frLe_cons rfl (frLe_cons rfl (frLe_cons rfl frLe_nil)))) (stoLe_cons rfl (stoLe_cons rfl (stoLe_cons rfl (stoLe_cons rfl (stoLe_cons rfl stoLe_nil)))))) .nil))) (.cons (.step [1, 2] (by kernel_rfl) rfl (.cons (.yes 3 rfl (wanted_plain rfl) (opTo_q (d := 12) rfl rfl (ev_loadN rfl rfl ty_api_Fault rfl rfl)) rfl (frLe_cons rfl (frLe_cons rfl (frLe_cons rfl (frLe_cons rfl (frLe_cons rfl frLe_nil))))) (stoLe_cons rfl (stoLe_cons rfl (stoLe_cons rfl (stoLe_cons rfl (stoLe_cons rfl stoLe_nil)))))) (.cons (.yes 4 rfl (wanted_plain rfl) (opTo_store rfl rfl rfl ty_api_Envelope rfl rfl) rfl (frLe_cons rfl (frLe_cons rfl (frLe_cons rfl (frLe_cons rfl frLe_nil)))) (stoLe_cons rfl (stoLe_cons rfl (stoLe_cons rfl (stoLe_cons rfl (stoLe_cons rfl stoLe_nil)))))) .nil))) (.cons (.step [0] (by kernel_rfl) rfl (.cons (.yes 3 rfl (wanted_plain rfl) (opTo_q (d := 11) rfl rfl (ev_build (cs := [.s (([] : Str)), .pv (.sl (some true) []), .s (([] : Str))]) ty_api_Envelope pl_api_Envelope (.inr ⟨rfl, rfl⟩) rfl)) rfl (frLe_cons rfl (frLe_cons rfl (frLe_cons rfl (frLe_cons rfl (frLe_cons rfl frLe_nil))))) (stoLe_cons rfl (stoLe_cons rfl (stoLe_cons rfl (stoLe_cons rfl (stoLe_cons rfl stoLe_nil)))))) .nil)) (.cons (.step [2] (by kernel_rfl) rfl (.cons (.yes 5 rfl (wanted_plain rfl) (opTo_store rfl rfl rfl ty_api_Envelope rfl rfl) rfl (frLe_cons rfl (frLe_cons rfl (frLe_cons rfl (frLe_cons rfl (frLe_cons rfl frLe_nil))))) (stoLe_cons rfl (stoLe_cons rfl (stoLe_cons rfl (stoLe_cons rfl (stoLe_cons rfl stoLe_nil)))))) .nil)) (.cons (.step [1] (by kernel_rfl) rfl (.cons (.yes 5 rfl (wanted_plain rfl) (opTo_q (d := 12) rfl rfl (ev_loadN rfl rfl ty_api_Fault rfl rfl)) rfl (frLe_cons rfl (frLe_cons rfl (frLe_cons rfl (frLe_cons rfl (frLe_cons rfl frLe_nil))))) (stoLe_cons rfl (stoLe_cons rfl (stoLe_cons rfl (stoLe_cons rfl (stoLe_cons rfl stoLe_nil)))))) .nil)) (.cons (.step [3] (by kernel_rfl) rfl (.cons (.yes 6 rfl (wanted_plain rfl) (opTo_store rfl rfl rfl ty_api_Fault rfl rfl) rfl (frLe_cons rfl (frLe_cons rfl (frLe_cons rfl (frLe_cons rfl (frLe_cons rfl frLe_nil))))) (stoLe_cons rfl (stoLe_cons rfl (stoLe_cons rfl (stoLe_cons rfl (stoLe_cons rfl stoLe_nil)))))) .nil)) (.cons (.full (by kernel_rfl) (hA ?_)) .nil)))))))
  refine rn tk 3 rfl ?_
  cases hr
  exact kr tk (.inr rfl) rfl rfl
 ·
  refine rn tk 6 rfl ?_
  refine ct hr (fun j6 => [(2, .ptr 2 0), (3, .ptr 3 0), (4, .ptr 4 0), (5, .ptr 5 0), (15, .hs 2002 0)]) (fun j6 => [(2002, .row 36 true 2 (List.map TRecipient.pc j6)), (5, .cells [.i 0, .i 0]), (4, .cells [.s (([] : Str)), .l TRecipient.pc ([]), .s (([] : Str))]), (3, .cells [.s a1]), (2, .cells [.s a0.From, .l TRecipient.pc a0.To, .s a0.Id])]) (fun j6 hr jump1 => ?_) (fun j6 hr => ?_)
  ·
   refine il (fn := Try.f37) (args := [.l TRecipient.pc a0.To]) 100000 199999 [(2, .ptr 2 0), (3, .ptr 3 0), (4, .ptr 4 0), (5, .ptr 5 0)] rfl ⟨Try.func37, rfl, by kernel_rfl⟩ rfl rfl rfl fun T1 ds1 => ?_
   refine rn tk 3 rfl ?_
   refine awpl_adoptM 1002 (d := 2) 36 2 rfl rfl rfl (hO ?_)
   refine rn tk 6 rfl ?_
   refine awpl_isnil (d := 3) (F := TRecipient.pc) (l := a0.To) rfl rfl rfl ty_s_api_Recipient (fun c7 => hO ?_) (hO ?_)
   ·
    replace hr := nilE_nil c7 hr
    refine rn tk 6 rfl ?_
    refine awpl_adoptM 2002 (d := 2) 36 2 rfl rfl rfl (hO ?_)
    refine rn tk 4 rfl ?_
    refine ie tk [.hs 2002 0] [(2, .ptr 2 0), (3, .ptr 3 0), (4, .ptr 4 0), (5, .ptr 5 0)] [(2002, .row 36 true 2 (List.map TRecipient.pc (([] : List TRecipient)))), (1002, .row 36 true 2 (List.map TRecipient.pc (([] : List TRecipient)))), (6, .cells [.i v1.Code, .i v1.Index]), (5, .cells [.i 0, .i 0]), (4, .cells [.s (([] : Str)), .pv (.sl (some true) []), .s (([] : Str))]), (3, .cells [.s a1]), (2, .cells [.s a0.From, .l TRecipient.pc a0.To, .s a0.Id])] (.inr rfl) rfl rfl rfl rfl ?_
    cases hr
    exact jump1 _ _ rfl rfl
   ·
    replace hr := nilE_not hr
    refine rn tk 7 rfl ?_
    refine wo (opTo_litz (k := 5) rfl ty_s_api_Recipient ty_api_Recipient) rfl ?_
    refine rn tk 1 rfl ?_
    obtain ⟨v8, h9, hr⟩ := bind_some hr
    refine wo (opTo_appendz (k := 7) (F := TRecipient.pc) (xs := a0.To) (lim := 5864062014805) 2002 rfl rfl rfl ty_s_api_Recipient ty_api_Recipient rfl rfl (fun _ => rfl) rfl rfl rfl h9) rfl ?_
    refine rn tk 4 rfl ?_
    refine ie tk [.hs 2002 0] [(2, .ptr 2 0), (3, .ptr 3 0), (4, .ptr 4 0), (5, .ptr 5 0)] [(2002, .row 36 true 2 (List.map TRecipient.pc v8)), (1002, .row 36 true 2 (List.map TRecipient.pc (([] : List TRecipient)))), (6, .cells [.i v1.Code, .i v1.Index]), (5, .cells [.i 0, .i 0]), (4, .cells [.s (([] : Str)), .pv (.sl (some true) []), .s (([] : Str))]), (3, .cells [.s a1]), (2, .cells [.s a0.From, .l TRecipient.pc a0.To, .s a0.Id])] (.inr rfl) rfl rfl rfl rfl ?_
    cases hr
    exact jump1 _ _ rfl rfl
  ·
   refine rn tk 1 rfl ?_
   refine ct hr (fun j10 => [(2, .ptr 2 0), (4, .ptr 4 0), (5, .ptr 5 0), (17, .l TRecipient.pc j10)]) (fun j10 => [(5, .cells [.i 0, .i 0]), (4, .cells [.s (([] : Str)), .l TRecipient.pc ([]), .s (([] : Str))]), (2, .cells [.s a0.From, .l TRecipient.pc a0.To, .s a0.Id])]) (fun j10 hr jump2 => ?_) (fun j10 hr => ?_)
   ·
    refine il (fn := Try.f36) (args := [.hs 2002 0, .fn (.func 38) [] [.ptr 3 0]]) 200000 299999 [(2, .ptr 2 0), (4, .ptr 4 0), (5, .ptr 5 0)] rfl ⟨Try.func36, rfl, by kernel_rfl⟩ rfl rfl rfl fun T2 ds2 => ?_
    refine rn tk 9 rfl ?_
    refine ct hr (fun j11 => [(0, .hs 2002 0), (1, .fn (.func 38) [] [.ptr 3 0]), (10, .i j11)]) (fun j11 => [(299999, .sus g0.w.heap.size ds2), (200002, .hold (.ptr 2 0) (T2.getD 2 undef)), (200004, .hold (.ptr 4 0) (T2.getD 4 undef)), (200005, .hold (.ptr 5 0) (T2.getD 5 undef)), (2002, .row 36 true 2 (List.map TRecipient.pc j6)), (5, .cells [.i 0, .i 0]), (4, .cells [.s (([] : Str)), .l TRecipient.pc ([]), .s (([] : Str))]), (3, .cells [.s a1]), (2, .cells [.s a0.From, .l TRecipient.pc a0.To, .s a0.Id])]) (fun j11 hr jump3 => ?_) (fun j11 hr => ?_)
    ·
     refine il (fn := Try.f63) (args := [.hs 2002 0, .fn (.func 38) [] [.ptr 3 0]]) 300000 399999 [(0, .hs 2002 0), (1, .fn (.func 38) [] [.ptr 3 0])] rfl ⟨Try.func63, rfl, by kernel_rfl⟩ rfl rfl rfl fun T3 ds3 => ?_
     refine rn tk 9 rfl ?_
     refine wnh tk rfl rfl rfl rfl ?_
     refine rn tk 4 rfl ?_
     refine al2 hr (fun s12 => [(0, .hs 2002 0), (1, .fn (.func 38) [] [.ptr 3 0]), (7, .i ((j6.length : Int))), (8, .i s12)]) (fun s12 => [(399999, .sus g0.w.heap.size ds3), (300000, .hold (.hs 2002 0) (T3.getD 0 undef)), (300001, .hold (.fn (.func 38) [] [.ptr 3 0]) (T3.getD 1 undef)), (299999, .sus g0.w.heap.size ds2), (200002, .hold (.ptr 2 0) (T2.getD 2 undef)), (200004, .hold (.ptr 4 0) (T2.getD 4 undef)), (200005, .hold (.ptr 5 0) (T2.getD 5 undef)), (2002, .row 36 true 2 (List.map TRecipient.pc j6)), (5, .cells [.i 0, .i 0]), (4, .cells [.s (([] : Str)), .l TRecipient.pc ([]), .s (([] : Str))]), (3, .cells [.s a1]), (2, .cells [.s a0.From, .l TRecipient.pc a0.To, .s a0.Id])]) (.exit 0) (fun b13 => []) (fun b13 => [(399999, .sus g0.w.heap.size ds3), (300000, .hold (.hs 2002 0) (T3.getD 0 undef)), (300001, .hold (.fn (.func 38) [] [.ptr 3 0]) (T3.getD 1 undef)), (299999, .sus g0.w.heap.size ds2), (200002, .hold (.ptr 2 0) (T2.getD 2 undef)), (200004, .hold (.ptr 4 0) (T2.getD 4 undef)), (200005, .hold (.ptr 5 0) (T2.getD 5 undef)), (2002, .row 36 true 2 (List.map TRecipient.pc j6)), (5, .cells [.i 0, .i 0]), (4, .cells [.s (([] : Str)), .l TRecipient.pc ([]), .s (([] : Str))]), (3, .cells [.s a1]), (2, .cells [.s a0.From, .l TRecipient.pc a0.To, .s a0.Id])]) .ret (fun b14 => [(4, .i b14)]) (fun b14 => [(399999, .sus g0.w.heap.size ds3), (300000, .hold (.hs 2002 0) (T3.getD 0 undef)), (300001, .hold (.fn (.func 38) [] [.ptr 3 0]) (T3.getD 1 undef)), (299999, .sus g0.w.heap.size ds2), (200002, .hold (.ptr 2 0) (T2.getD 2 undef)), (200004, .hold (.ptr 4 0) (T2.getD 4 undef)), (200005, .hold (.ptr 5 0) (T2.getD 5 undef)), (2002, .row 36 true 2 (List.map TRecipient.pc j6)), (5, .cells [.i 0, .i 0]), (4, .cells [.s (([] : Str)), .l TRecipient.pc ([]), .s (([] : Str))]), (3, .cells [.s a1]), (2, .cells [.s a0.From, .l TRecipient.pc a0.To, .s a0.Id])]) rfl rfl (fun s12 x16 hr => ?_) (fun b13 hr => ?_) (fun b14 hr => ?_)
     ·
      unfold envelope_For_l1 at hr
      refine rn tk 6 rfl ?_
      refine ac 9 hr rfl (fun c17 hr => ?_) (fun c17 hr => ?_)
      ·
       refine rn tk 15 rfl ?_
       obtain ⟨v18, h19, hr⟩ := bind_some hr
       refine wih tk h19 rfl rfl rfl rfl rfl ?_
       obtain ⟨v20, h21, hr⟩ := bind_some hr
       refine wq (ev_hloadN (F := TRecipient.pc) (l := j6) (n := s12) (j := 0) rfl rfl ty_api_Recipient rfl h21 rfl) rfl rfl rfl ?_
       refine il (fn := Try.f38) (args := [.agg [.s v20.Address, .i v20.Notify], .ptr 3 0]) 500000 599999 [(0, .hs 2002 0), (1, .fn (.func 38) [] [.ptr 3 0]), (5, .i s12), (7, .i ((j6.length : Int))), (8, .i s12)] rfl ⟨Try.func38, rfl, by kernel_rfl⟩ rfl rfl rfl fun T5 ds5 => ?_
       refine rn tk 2 rfl ?_
       refine wo (opTo_box (k := 2) 1002 rfl rfl rfl rfl rfl) rfl ?_
       refine rn tk 7 rfl ?_
       obtain ⟨v22, h23, hr⟩ := bind_some hr
       refine cl (envelope_Split_run _ _ h23) rfl rfl ?_
       refine rn tk 18 rfl ?_
       refine ie tk [.bo ((v22.2.1 != a1))] [(0, .hs 2002 0), (1, .fn (.func 38) [] [.ptr 3 0]), (5, .i s12), (7, .i ((j6.length : Int))), (8, .i s12)] [(1002, .cells [.s v20.Address, .i v20.Notify]), (399999, .sus g0.w.heap.size ds3), (300000, .hold (.hs 2002 0) (T3.getD 0 undef)), (300001, .hold (.fn (.func 38) [] [.ptr 3 0]) (T3.getD 1 undef)), (299999, .sus g0.w.heap.size ds2), (200002, .hold (.ptr 2 0) (T2.getD 2 undef)), (200004, .hold (.ptr 4 0) (T2.getD 4 undef)), (200005, .hold (.ptr 5 0) (T2.getD 5 undef)), (2002, .row 36 true 2 (List.map TRecipient.pc j6)), (5, .cells [.i 0, .i 0]), (4, .cells [.s (([] : Str)), .l TRecipient.pc ([]), .s (([] : Str))]), (3, .cells [.s a1]), (2, .cells [.s a0.From, .l TRecipient.pc a0.To, .s a0.Id])] (.inr rfl) rfl rfl rfl rfl (hO ?_)
       refine rn tk 2 rfl ?_
       refine ac 16 hr rfl (fun c24 hr => ?_) (fun c24 hr => ?_)
       ·
        refine rn tk 9 rfl ?_
        cases hr
        exact ato rfl rfl rfl rfl
       ·
        refine rn tk 7 rfl ?_
        cases hr
        exact atc rfl rfl
      ·
       refine rn tk 2 rfl ?_
       cases hr
       exact ato rfl rfl rfl rfl
     ·
      refine rn tk 8 rfl ?_
      refine ie tk [.i ((-1))] [(0, .hs 2002 0), (1, .fn (.func 38) [] [.ptr 3 0])] [(299999, .sus g0.w.heap.size ds2), (200002, .hold (.ptr 2 0) (T2.getD 2 undef)), (200004, .hold (.ptr 4 0) (T2.getD 4 undef)), (200005, .hold (.ptr 5 0) (T2.getD 5 undef)), (2002, .row 36 true 2 (List.map TRecipient.pc j6)), (5, .cells [.i 0, .i 0]), (4, .cells [.s (([] : Str)), .l TRecipient.pc ([]), .s (([] : Str))]), (3, .cells [.s a1]), (2, .cells [.s a0.From, .l TRecipient.pc a0.To, .s a0.Id])] (.inr rfl) rfl rfl rfl rfl ?_
      cases hr
      exact jump3 _ _ rfl rfl
     ·
      refine rn tk 2 rfl ?_
      refine ie tk [.i b14] [(0, .hs 2002 0), (1, .fn (.func 38) [] [.ptr 3 0])] [(299999, .sus g0.w.heap.size ds2), (200002, .hold (.ptr 2 0) (T2.getD 2 undef)), (200004, .hold (.ptr 4 0) (T2.getD 4 undef)), (200005, .hold (.ptr 5 0) (T2.getD 5 undef)), (2002, .row 36 true 2 (List.map TRecipient.pc j6)), (5, .cells [.i 0, .i 0]), (4, .cells [.s (([] : Str)), .l TRecipient.pc ([]), .s (([] : Str))]), (3, .cells [.s a1]), (2, .cells [.s a0.From, .l TRecipient.pc a0.To, .s a0.Id])] (.inr rfl) rfl rfl rfl rfl ?_
      cases hr
      exact jump3 _ _ rfl rfl
    ·
     refine rn tk 10 rfl ?_
     refine ac 12 hr rfl (fun c25 hr => ?_) (fun c25 hr => ?_)
     ·
      refine rn tk 6 rfl ?_
      refine awp_unmu 2002 rfl (hC ?_)
      refine awp_pub (d := 4) (F := TRecipient.pc) (l := j6) rfl rfl (hC ?_)
      refine rn tk 2 rfl ?_
      refine ie tk [.l TRecipient.pc j6] [(2, .ptr 2 0), (4, .ptr 4 0), (5, .ptr 5 0)] [(2002, .row 36 false 2 (List.map TRecipient.pc j6)), (5, .cells [.i 0, .i 0]), (4, .cells [.s (([] : Str)), .l TRecipient.pc ([]), .s (([] : Str))]), (3, .cells [.s a1]), (2, .cells [.s a0.From, .l TRecipient.pc a0.To, .s a0.Id])] (.inr rfl) rfl rfl rfl rfl ?_
      cases hr
      exact jump2 _ _ rfl rfl
     ·
      refine rn tk 11 rfl ?_
      refine al1 hr (fun s26 => [(0, .hs 2002 0), (1, .fn (.func 38) [] [.ptr 3 0]), (5, .i s26.1), (6, .i s26.2.1)]) (fun s26 => [(299999, .sus g0.w.heap.size ds2), (200002, .hold (.ptr 2 0) (T2.getD 2 undef)), (200004, .hold (.ptr 4 0) (T2.getD 4 undef)), (200005, .hold (.ptr 5 0) (T2.getD 5 undef)), (2002, .row 36 true 2 (List.map TRecipient.pc s26.2.2)), (5, .cells [.i 0, .i 0]), (4, .cells [.s (([] : Str)), .l TRecipient.pc ([]), .s (([] : Str))]), (3, .cells [.s a1]), (2, .cells [.s a0.From, .l TRecipient.pc a0.To, .s a0.Id])]) (.exit 0) (fun b27 => [(0, .hs 2002 0), (5, .i b27.1)]) (fun b27 => [(299999, .sus g0.w.heap.size ds2), (200002, .hold (.ptr 2 0) (T2.getD 2 undef)), (200004, .hold (.ptr 4 0) (T2.getD 4 undef)), (200005, .hold (.ptr 5 0) (T2.getD 5 undef)), (2002, .row 36 true 2 (List.map TRecipient.pc b27.2)), (5, .cells [.i 0, .i 0]), (4, .cells [.s (([] : Str)), .l TRecipient.pc ([]), .s (([] : Str))]), (2, .cells [.s a0.From, .l TRecipient.pc a0.To, .s a0.Id])]) rfl rfl (fun s26 x28 hr => ?_) (fun b27 hr => ?_)
      ·
       unfold envelope_For_l2 at hr
       refine rn tk 5 rfl ?_
       refine wnh tk rfl rfl rfl rfl ?_
       refine rn tk 3 rfl ?_
       refine ac 19 hr rfl (fun c29 hr => ?_) (fun c29 hr => ?_)
       ·
        refine rn tk 2 rfl ?_
        refine jb hr (fun j30 => [(0, .hs 2002 0), (1, .fn (.func 38) [] [.ptr 3 0]), (5, .i j30.1), (6, .i s26.2.1)]) (fun j30 => [(299999, .sus g0.w.heap.size ds2), (200002, .hold (.ptr 2 0) (T2.getD 2 undef)), (200004, .hold (.ptr 4 0) (T2.getD 4 undef)), (200005, .hold (.ptr 5 0) (T2.getD 5 undef)), (2002, .row 36 true 2 (List.map TRecipient.pc j30.2)), (5, .cells [.i 0, .i 0]), (4, .cells [.s (([] : Str)), .l TRecipient.pc ([]), .s (([] : Str))]), (3, .cells [.s a1]), (2, .cells [.s a0.From, .l TRecipient.pc a0.To, .s a0.Id])]) (fun j30 hr => ?_) (fun j30 hr => ?_)
        ·
         refine rn tk 5 rfl ?_
         obtain ⟨v31, h32, hr⟩ := bind_some hr
         refine wih tk h32 rfl rfl rfl rfl rfl ?_
         obtain ⟨v33, h34, hr⟩ := bind_some hr
         refine wq (ev_hloadN (F := TRecipient.pc) (l := s26.2.2) (n := s26.2.1) (j := 0) rfl rfl ty_api_Recipient rfl h34 rfl) rfl rfl rfl ?_
         refine rn tk 8 rfl ?_
         refine il (fn := Try.f38) (args := [.agg [.s v33.Address, .i v33.Notify], .ptr 3 0]) 1100000 1199999 [(0, .hs 2002 0), (1, .fn (.func 38) [] [.ptr 3 0]), (5, .i s26.1), (6, .i s26.2.1), (7, .ptr 7 0)] rfl ⟨Try.func38, rfl, by kernel_rfl⟩ rfl rfl rfl fun T11 ds11 => ?_
         refine rn tk 2 rfl ?_
         refine wo (opTo_box (k := 2) 1002 rfl rfl rfl rfl rfl) rfl ?_
         refine rn tk 7 rfl ?_
         obtain ⟨v35, h36, hr⟩ := bind_some hr
         refine cl (envelope_Split_run _ _ h36) rfl rfl ?_
         refine rn tk 18 rfl ?_
         refine ie tk [.bo ((v35.2.1 != a1))] [(0, .hs 2002 0), (1, .fn (.func 38) [] [.ptr 3 0]), (5, .i s26.1), (6, .i s26.2.1), (7, .ptr 7 0)] [(1002, .cells [.s v33.Address, .i v33.Notify]), (7, .cells [.s v33.Address, .i v33.Notify]), (299999, .sus g0.w.heap.size ds2), (200002, .hold (.ptr 2 0) (T2.getD 2 undef)), (200004, .hold (.ptr 4 0) (T2.getD 4 undef)), (200005, .hold (.ptr 5 0) (T2.getD 5 undef)), (2002, .row 36 true 2 (List.map TRecipient.pc s26.2.2)), (5, .cells [.i 0, .i 0]), (4, .cells [.s (([] : Str)), .l TRecipient.pc ([]), .s (([] : Str))]), (3, .cells [.s a1]), (2, .cells [.s a0.From, .l TRecipient.pc a0.To, .s a0.Id])] (.inr rfl) rfl rfl rfl rfl (hO ?_)
         refine rn tk 3 rfl ?_
         refine ac 29 hr rfl (fun c37 hr => ?_) (fun c37 hr => ?_)
         ·
          refine rn tk 5 rfl ?_
          obtain ⟨v38, h39, hr⟩ := bind_some hr
          refine wih tk h39 rfl rfl rfl rfl rfl ?_
          obtain ⟨v40, h41, hr⟩ := bind_some hr
          refine wo (opTo_hstore (F := TRecipient.pc) (l := s26.2.2) (n := s26.1) (j := 0) (v := v40) (v' := v33) (pcs := [pS v33.Address, pI v33.Notify]) rfl rfl rfl ty_api_Recipient rfl h41 rfl rfl) rfl ?_
          refine rn tk 8 rfl ?_
          cases hr
          exact jn _ rfl rfl rfl
         ·
          refine rn tk 2 rfl ?_
          cases hr
          exact jn _ rfl rfl rfl
        ·
         refine rn tk 5 rfl ?_
         cases hr
         exact atc rfl rfl
       ·
        refine rn tk 2 rfl ?_
        cases hr
        exact ato rfl rfl rfl rfl
      ·
       refine rn tk 6 rfl ?_
       obtain ⟨v42, h43, hr⟩ := bind_some hr
       refine wq (ev_hsub (F := TRecipient.pc) (l := b27.2) (p := b27.1) rfl rfl rfl ty_s_api_Recipient ty_api_Recipient h43) rfl rfl rfl ?_
       refine wo (opTo_clear (F := TRecipient.pc) (l := b27.2) (z := ((TRecipient.mk (([] : Str)) 0))) rfl rfl ty_s_api_Recipient ty_api_Recipient rfl rfl) rfl ?_
       refine rn tk 6 rfl ?_
       refine awpl_unmu 2002 rfl (hO ?_)
       refine awpl_pub (d := 39) (F := TRecipient.pc) (l := ((clr0 b27.2 (Int.toNat b27.1) ((TRecipient.mk (([] : Str)) 0))))) rfl rfl (hO ?_)
       obtain ⟨v44, h45, hr⟩ := bind_some hr
       refine wlH tk h45 rfl rfl rfl (fun _ => rfl) rfl ?_
       refine rn tk 4 rfl ?_
       refine ie tk [.l TRecipient.pc v44] [(2, .ptr 2 0), (4, .ptr 4 0), (5, .ptr 5 0)] [(2002, .row 36 false 2 (List.map TRecipient.pc ((clr0 b27.2 (Int.toNat b27.1) ((TRecipient.mk (([] : Str)) 0)))))), (5, .cells [.i 0, .i 0]), (4, .cells [.s (([] : Str)), .l TRecipient.pc ([]), .s (([] : Str))]), (2, .cells [.s a0.From, .l TRecipient.pc a0.To, .s a0.Id])] (.inr rfl) rfl rfl rfl rfl ?_
       cases hr
       exact jump2 _ _ rfl rfl
   ·
    refine rn tk 9 rfl ?_
    refine wn tk rfl rfl rfl ?_
    refine rn tk 3 rfl ?_
    refine ac 22 hr rfl (fun c46 hr => ?_) (fun c46 hr => ?_)
    ·
     refine rn tk 3 rfl ?_
     obtain ⟨v47, h48, hr⟩ := bind_some hr
     refine cl (basic_Fault_run _ _ _ h48) rfl rfl ?_
     refine rn tk 6 rfl ?_
     cases hr
     exact kr tk (.inr rfl) rfl rfl
    ·
     refine rn tk 3 rfl ?_
     obtain ⟨v49, h50, hr⟩ := bind_some hr
     refine dr 2 [(26, .agg [.i v49.Code, .i v49.Index]), (25, .agg [.s a0.From, .l TRecipient.pc j10, .s a0.Id])] mixed (by kernel_rfl) rfl rfl (pq tk rfl (.plain rfl) (.run (.plain rfl) (opG_call (basic_None_run  v49 h50) rfl) .nil)) rfl ?_
     refine rn tk 5 rfl ?_
     cases hr
     exact kr tk (.inr rfl) rfl rfl
theorem envelope_Merge_run (a0 : List TRecipient) (r : (List TRecipient) × TFault) (hr : envelope_Merge a0 = some r) : Run Try.prog 18 [.l TRecipient.pc a0] (.tup [.l TRecipient.pc r.1, .agg [.i r.2.Code, .i r.2.Index]]) := by
 unfold envelope_Merge at hr
 refine rf (fn := Try.f18) ⟨Try.func18, rfl, by kernel_rfl⟩ rfl (fun _ => rfl) fun g0 hg => ?_
 refine rn tk 10 rfl ?_
 refine wn tk rfl rfl rfl ?_
 refine rn tk 3 rfl ?_
 refine ac 12 hr rfl (fun c1 hr => ?_) (fun c1 hr => ?_)
 ·
  refine rn tk 2 rfl ?_
  obtain ⟨v2, h3, hr⟩ := bind_some hr
  refine cl (basic_Fault_run _ _ _ h3) rfl rfl ?_
  refine rn tk 6 rfl ?_
  cases hr
  exact kr tk (.inr rfl) rfl rfl
 ·
  refine rn tk 4 rfl ?_
  refine wo (opTo_makeMap (k0 := 14) 1014 false rfl rfl rfl) rfl ?_
  refine rn tk 6 rfl ?_
  refine awpl_adoptM 1005 (d := 5) 36 2 rfl rfl rfl (hO ?_)
  refine rn tk 6 rfl ?_
  refine wn tk rfl rfl rfl ?_
  refine rn tk 4 rfl ?_
  refine al2 hr (fun s4 => [(3, .ptr 3 0), (4, .mp 1014), (5, .hs 1005 0), (15, .l TRecipient.pc a0), (16, .i ((a0.length : Int))), (17, .i s4.1)]) (fun s4 => [(1005, .row 36 true 2 (List.map TRecipient.pc s4.2.1)), (1014, .mapo false (menc keyS cI s4.2.2)), (3, .cells [.i 0, .i 0])]) (.exit 0) (fun b5 => [(3, .ptr 3 0), (5, .hs 1005 0)]) (fun b5 => [(1005, .row 36 true 2 (List.map TRecipient.pc b5)), (3, .cells [.i 0, .i 0])]) .ret (fun b6 => [(2, .l TRecipient.pc b6.1), (3, .ptr 3 0)]) (fun b6 => [(3, .cells [.i b6.2.Code, .i b6.2.Index])]) rfl rfl (fun s4 x8 hr => ?_) (fun b5 hr => ?_) (fun b6 hr => ?_)
  ·
   unfold envelope_Merge_l1 at hr
   refine rn tk 6 rfl ?_
   refine ac 18 hr rfl (fun c9 hr => ?_) (fun c9 hr => ?_)
   ·
    refine rn tk 2 rfl ?_
    refine jk (fun j10 => [(3, .ptr 3 0), (4, .mp 1014), (5, .hs 1005 0), (15, .l TRecipient.pc a0), (16, .i ((a0.length : Int))), (17, .i s4.1)]) (fun j10 => [(1005, .row 36 true 2 (List.map TRecipient.pc j10.1)), (1014, .mapo false (menc keyS cI j10.2)), (3, .cells [.i 0, .i 0])]) (fun j10 => envelope_Merge_k2 s4 j10 = some x8) ?_ ?_
    ·
     refine rn tk 4 rfl ?_
     obtain ⟨v11, h12, hr⟩ := bind_some hr
     refine wi tk h12 rfl rfl rfl rfl rfl ?_
     refine rn tk 11 rfl ?_
     obtain ⟨v13, h14, hr⟩ := bind_some hr
     refine cl (envelope_Address_run _ _ h14) rfl rfl ?_
     refine rn tk 3 rfl ?_
     refine ac 25 hr rfl (fun c15 hr => ?_) (fun c15 hr => ?_)
     ·
      refine rn tk 3 rfl ?_
      obtain ⟨v16, h17, hr⟩ := bind_some hr
      refine cl (basic_Fault_run _ _ _ h17) rfl rfl ?_
      refine rn tk 8 rfl ?_
      cases hr
      exact ato rfl rfl rfl rfl
     ·
      refine rn tk 7 rfl ?_
      obtain ⟨v18, h19, hr⟩ := bind_some hr
      refine cl (envelope_Notify_run _ _ h19) rfl rfl ?_
      refine rn tk 3 rfl ?_
      refine ac 31 hr rfl (fun c20 hr => ?_) (fun c20 hr => ?_)
      ·
       refine rn tk 3 rfl ?_
       obtain ⟨v21, h22, hr⟩ := bind_some hr
       refine cl (basic_Fault_run _ _ _ h22) rfl rfl ?_
       refine rn tk 8 rfl ?_
       cases hr
       exact ato rfl rfl rfl rfl
      ·
       refine rn tk 7 rfl ?_
       refine wq (ev_lookupOk (KK := keyS) (F := cI) (es := s4.2.2) (k := v11.Address) (z := 0) rfl rfl rfl ty_map_string_int.u ty_string.u ty_int rfl) rfl rfl rfl ?_
       refine rn tk 13 rfl ?_
       refine ac 41 hr rfl (fun c23 hr => ?_) (fun c23 hr => ?_)
       ·
        refine rn tk 1 rfl ?_
        obtain ⟨v24, h25, hr⟩ := bind_some hr
        obtain ⟨v26, h27, hr⟩ := bind_some hr
        refine dr 7 [(48, .i v11.Notify), (47, .ptr 7 1), (46, .i v26.Notify), (45, .hp 1005 (Int.toNat (((mget s4.2.2 v11.Address).getD 0))) 1), (44, .hp 1005 (Int.toNat (((mget s4.2.2 v11.Address).getD 0))) 0), (43, .i (((mget s4.2.2 v11.Address).getD 0))), (42, .hs 1005 0)] mixed (by kernel_rfl) rfl rfl (pq tk rfl (.plain rfl) (pq tk rfl (.plain rfl) (.run (.plain rfl) (opG_q (ev_hidx (F := TRecipient.pc) (l := s4.2.1) (n := (((mget s4.2.2 v11.Address).getD 0))) rfl rfl rfl ty_s_api_Recipient ty_api_Recipient h25)) (pq tk rfl (.plain rfl) (.run (.plain rfl) (opG_q (ev_hload (F := TRecipient.pc) (l := s4.2.1) (n := (((mget s4.2.2 v11.Address).getD 0))) (j := 1) rfl rfl ty_int rfl h27 rfl)) (pq tk rfl (.plain rfl) (pq tk rfl (.plain rfl) .nil))))))) rfl ?_
        refine wq (ev_ior rfl rfl) rfl rfl rfl ?_
        obtain ⟨v28, h29, hr⟩ := bind_some hr
        refine wih tk h29 rfl rfl rfl rfl rfl ?_
        refine rn tk 1 rfl ?_
        obtain ⟨v30, h31, hr⟩ := bind_some hr
        refine wo (opTo_hstore (F := TRecipient.pc) (l := s4.2.1) (n := (((mget s4.2.2 v11.Address).getD 0))) (j := 1) (v := v30) (v' := ((TRecipient.mk v30.Address ((iOr v26.Notify v11.Notify))))) (pcs := [pI ((iOr v26.Notify v11.Notify))]) rfl rfl rfl ty_int rfl h31 rfl rfl) rfl ?_
        refine rn tk 5 rfl ?_
        exact jn (((List.set s4.2.1 (Int.toNat (((mget s4.2.2 v11.Address).getD 0))) ((TRecipient.mk v30.Address ((iOr v26.Notify v11.Notify))))), s4.2.2)) hr rfl rfl
       ·
        refine rn tk 8 rfl ?_
        refine wnh tk rfl rfl rfl rfl ?_
        refine wo (opTo_mapUpdate (KK := keyS) (F := cI) (es := s4.2.2) (k := v11.Address) (v := ((s4.2.1.length : Int))) rfl rfl rfl rfl rfl ty_map_string_int.u ty_string.u) rfl ?_
        refine rn tk 5 rfl ?_
        refine wz TRecipient.pc ([v11] : List TRecipient) tk rfl rfl (fun _ => rfl) rfl rfl rfl ?_
        obtain ⟨v32, h33, hr⟩ := bind_some hr
        refine wa tk h33 rfl rfl rfl rfl (fun _ => rfl) rfl rfl ?_
        refine rn tk 3 rfl ?_
        exact jn ((v32, (mput s4.2.2 v11.Address ((s4.2.1.length : Int))))) hr rfl rfl
    ·
     intro j10 hr
     unfold envelope_Merge_k2 at hr
     refine rn tk 4 rfl ?_
     cases hr
     exact atc rfl rfl
   ·
    refine rn tk 2 rfl ?_
    cases hr
    exact ato rfl rfl rfl rfl
  ·
   refine rn tk 5 rfl ?_
   obtain ⟨v34, h35, hr⟩ := bind_some hr
   refine cl (basic_None_run _ h35) rfl rfl ?_
   refine rn tk 4 rfl ?_
   refine awp_unmu 1005 rfl (hC ?_)
   refine awp_pub (d := 2) (F := TRecipient.pc) (l := b5) rfl rfl (hC ?_)
   refine rn tk 1 rfl ?_
   cases hr
   exact kr tk (.inr rfl) rfl rfl
  ·
   refine rn tk 2 rfl ?_
   cases hr
   exact kr tk (.inr rfl) rfl rfl
theorem L_envelopes_run  (r : Bool) (hr : L_envelopes = some r) : Run Try.prog 12 [] (.bo r) := by
 unfold L_envelopes at hr
 refine rf (fn := Try.f12) ⟨Try.func12, rfl, by kernel_rfl⟩ rfl (fun _ => rfl) fun g0 hg => ?_
 refine rn tk 9 rfl ?_
 refine wz TRecipient.pc ([(TRecipient.mk (([97, 64, 120] : Str)) 0), (TRecipient.mk (([98, 64, 121] : Str)) 1)] : List TRecipient) tk rfl rfl (fun _ => rfl) rfl rfl rfl ?_
 refine rn tk 8 rfl ?_
 obtain ⟨v1, h2, hr⟩ := bind_some hr
 refine cl (envelope_Domains_run _ _ h2) rfl rfl ?_
 refine rn tk 11 rfl ?_
 obtain ⟨v3, h4, hr⟩ := bind_some hr
 refine cl (envelope_For_run _ _ _ h4) rfl rfl ?_
 refine rn tk 13 rfl ?_
 refine wz TRecipient.pc ([(TRecipient.mk (([97, 64, 98] : Str)) 1), (TRecipient.mk (([97, 64, 98] : Str)) 4)] : List TRecipient) tk rfl rfl (fun _ => rfl) rfl rfl rfl ?_
 obtain ⟨v5, h6, hr⟩ := bind_some hr
 refine cl (envelope_Merge_run _ _ h6) rfl rfl ?_
 refine rn tk 8 rfl ?_
 refine jb hr (fun j7 => [(0, .bo j7)]) (fun j7 => []) (fun j7 hr => ?_) (fun j7 hr => ?_)
 ·
  refine rn tk 5 rfl ?_
  refine bs 32 hr rfl (fun c8 hr => ?_) (fun c8 hr => ?_)
  ·
   refine rn tk 5 rfl ?_
   refine bs 37 hr rfl (fun c9 hr => ?_) (fun c9 hr => ?_)
   ·
    refine rn tk 5 rfl ?_
    refine bs 42 hr rfl (fun c10 hr => ?_) (fun c10 hr => ?_)
    ·
     refine rn tk 1 rfl ?_
     refine ug rfl rfl rfl ?_
     refine wz cS ([([120] : Str), ([121] : Str)] : List Str) tk rfl rfl (fun _ => rfl) rfl rfl rfl ?_
     obtain ⟨v11, h12, hr⟩ := bind_some hr
     refine ug rfl rfl rfl ?_
     refine cl (R_Strings_run _ _ _ h12) rfl rfl ?_
     refine rn tk 2 rfl ?_
     refine bs 47 hr rfl (fun c13 hr => ?_) (fun c13 hr => ?_)
     ·
      refine rn tk 3 rfl ?_
      refine ug rfl rfl rfl ?_
      refine wz TRecipient.pc ([(TRecipient.mk (([98, 64, 121] : Str)) 1)] : List TRecipient) tk rfl rfl (fun _ => rfl) rfl rfl rfl ?_
      obtain ⟨v14, h15, hr⟩ := bind_some hr
      refine ug rfl rfl rfl ?_
      refine cl (R_SameRecipients_run _ _ _ h15) rfl rfl ?_
      refine rn tk 2 rfl ?_
      refine bs 54 hr rfl (fun c16 hr => ?_) (fun c16 hr => ?_)
      ·
       refine rn tk 2 rfl ?_
       refine ug rfl rfl rfl ?_
       refine wz TRecipient.pc ([(TRecipient.mk (([97, 64, 98] : Str)) 5)] : List TRecipient) tk rfl rfl (fun _ => rfl) rfl rfl rfl ?_
       obtain ⟨v17, h18, hr⟩ := bind_some hr
       refine ug rfl rfl rfl ?_
       refine cl (R_SameRecipients_run _ _ _ h18) rfl rfl ?_
       refine rn tk 2 rfl ?_
       refine bs 60 hr rfl (fun c19 hr => ?_) (fun c19 hr => ?_)
       ·
        refine rn tk 1 rfl ?_
        obtain ⟨v20, h21, hr⟩ := bind_some hr
        refine ug rfl rfl rfl ?_
        refine cl (envelope_Validate_run _ _ h21) rfl rfl ?_
        obtain ⟨v22, h23, hr⟩ := bind_some hr
        refine ug rfl rfl rfl ?_
        refine cl (R_At_run _ _ _ h23) rfl rfl ?_
        refine ug rfl rfl rfl ?_
        refine wq (ev_structeq rfl rfl ty_api_Fault cmp_api_Fault (.int rfl (by decide) ty_int (.int rfl (by decide) ty_int .nil))) rfl rfl rfl ?_
        refine rn tk 3 rfl ?_
        cases hr
        exact jn _ rfl rfl rfl
       ·
        refine rn tk 7 rfl ?_
        cases hr
        exact jn _ rfl rfl rfl
      ·
       refine rn tk 13 rfl ?_
       cases hr
       exact jn _ rfl rfl rfl
     ·
      refine rn tk 20 rfl ?_
      cases hr
      exact jn _ rfl rfl rfl
    ·
     refine rn tk 25 rfl ?_
     cases hr
     exact jn _ rfl rfl rfl
   ·
    refine rn tk 30 rfl ?_
    cases hr
    exact jn _ rfl rfl rfl
  ·
   refine rn tk 35 rfl ?_
   cases hr
   exact jn _ rfl rfl rfl
 ·
  refine rn tk 1 rfl ?_
  cases hr
  exact kr tk (.inr rfl) rfl rfl
theorem R_In_run (a0 : Int) (a1 : Int) (a2 : Int) (r : Bool) (hr : R_In a0 a1 a2 = some r) : Run Try.prog 20 [.i a0, .i a1, .i a2] (.bo r) := by
 unfold R_In at hr
 refine rf (fn := Try.f20) ⟨Try.func20, rfl, by kernel_rfl⟩ rfl (fun _ => rfl) fun g0 hg => ?_
 refine rn tk 5 rfl ?_
 refine jb hr (fun j1 => [(6, .bo j1)]) (fun j1 => []) (fun j1 hr => ?_) (fun j1 hr => ?_)
 ·
  refine rn tk 5 rfl ?_
  refine bs 10 hr rfl (fun c2 hr => ?_) (fun c2 hr => ?_)
  ·
   refine rn tk 6 rfl ?_
   cases hr
   exact jn _ rfl rfl rfl
  ·
   refine rn tk 6 rfl ?_
   cases hr
   exact jn _ rfl rfl rfl
 ·
  refine rn tk 1 rfl ?_
  cases hr
  exact kr tk (.inr rfl) rfl rfl
theorem R_DomainOk_run (a0 : Str) (r : Bool) (hr : R_DomainOk a0 = some r) : Run Try.prog 44 [.s a0] (.bo r) := by
 unfold R_DomainOk at hr
 refine rf (fn := Try.f44) ⟨Try.func44, rfl, by kernel_rfl⟩ rfl (fun _ => rfl) fun g0 hg => ?_
 refine rn tk 12 rfl ?_
 refine al2 hr (fun s1 => [(0, .s a0), (3, .i s1)]) (fun s1 => []) (.exit 0) (fun b2 => [(0, .s a0)]) (fun b2 => []) .ret (fun b3 => [(2, .bo b3)]) (fun b3 => []) rfl rfl (fun s1 x5 hr => ?_) (fun b2 hr => ?_) (fun b3 hr => ?_)
 ·
  unfold R_DomainOk_l1 at hr
  refine rn tk 9 rfl ?_
  refine ac 8 hr rfl (fun c6 hr => ?_) (fun c6 hr => ?_)
  ·
   refine rn tk 8 rfl ?_
   obtain ⟨v7, h8, hr⟩ := bind_some hr
   refine ws tk h8 rfl rfl rfl rfl ?_
   refine wu tk rfl rfl rfl ?_
   refine rn tk 4 rfl ?_
   refine jb hr (fun j9 => [(0, .s a0), (3, .i s1), (4, .i ((v7.toNat : Int))), (36, .bo j9)]) (fun j9 => []) (fun j9 hr => ?_) (fun j9 hr => ?_)
   ·
    refine rn tk 3 rfl ?_
    obtain ⟨v10, h11, hr⟩ := bind_some hr
    refine ws tk h11 rfl rfl rfl rfl ?_
    refine rn tk 2 rfl ?_
    refine bs 19 hr rfl (fun c12 hr => ?_) (fun c12 hr => ?_)
    ·
     refine rn tk 3 rfl ?_
     refine bs 22 hr rfl (fun c13 hr => ?_) (fun c13 hr => ?_)
     ·
      refine rn tk 15 rfl ?_
      cases hr
      exact jn _ rfl rfl rfl
     ·
      refine rn tk 7 rfl ?_
      refine bs 29 hr rfl (fun c14 hr => ?_) (fun c14 hr => ?_)
      ·
       refine rn tk 8 rfl ?_
       cases hr
       exact jn _ rfl rfl rfl
      ·
       refine rn tk 3 rfl ?_
       obtain ⟨v15, h16, hr⟩ := bind_some hr
       refine ug rfl rfl rfl ?_
       refine ws tk h16 rfl rfl rfl rfl ?_
       refine rn tk 4 rfl ?_
       cases hr
       exact jn _ rfl rfl rfl
    ·
     refine rn tk 18 rfl ?_
     cases hr
     exact jn _ rfl rfl rfl
   ·
    refine ac 36 hr rfl (fun c17 hr => ?_) (fun c17 hr => ?_)
    ·
     refine rn tk 9 rfl ?_
     cases hr
     exact ato rfl rfl rfl rfl
    ·
     refine rn tk 2 rfl ?_
     refine jb hr (fun j18 => [(0, .s a0), (3, .i s1), (56, .bo j18)]) (fun j18 => []) (fun j18 hr => ?_) (fun j18 hr => ?_)
     ·
      refine rn tk 2 rfl ?_
      obtain ⟨v19, h20, hr⟩ := bind_some hr
      refine cl (R_In_run _ _ _ _ h20) rfl rfl ?_
      refine rn tk 2 rfl ?_
      refine bs 40 hr rfl (fun c21 hr => ?_) (fun c21 hr => ?_)
      ·
       refine rn tk 1 rfl ?_
       obtain ⟨v22, h23, hr⟩ := bind_some hr
       refine ug rfl rfl rfl ?_
       refine cl (R_In_run _ _ _ _ h23) rfl rfl ?_
       refine rn tk 3 rfl ?_
       refine bs 45 hr rfl (fun c24 hr => ?_) (fun c24 hr => ?_)
       ·
        refine rn tk 2 rfl ?_
        obtain ⟨v25, h26, hr⟩ := bind_some hr
        refine ug rfl rfl rfl ?_
        refine ws tk h26 rfl rfl rfl rfl ?_
        refine rn tk 3 rfl ?_
        refine bs 51 hr rfl (fun c27 hr => ?_) (fun c27 hr => ?_)
        ·
         refine rn tk 2 rfl ?_
         obtain ⟨v28, h29, hr⟩ := bind_some hr
         refine ug rfl rfl rfl ?_
         refine ws tk h29 rfl rfl rfl rfl ?_
         refine rn tk 3 rfl ?_
         cases hr
         exact jn _ rfl rfl rfl
        ·
         refine rn tk 6 rfl ?_
         cases hr
         exact jn _ rfl rfl rfl
       ·
        refine rn tk 12 rfl ?_
        cases hr
        exact jn _ rfl rfl rfl
      ·
       refine rn tk 17 rfl ?_
       cases hr
       exact jn _ rfl rfl rfl
     ·
      refine ac 56 hr rfl (fun c30 hr => ?_) (fun c30 hr => ?_)
      ·
       refine rn tk 8 rfl ?_
       cases hr
       exact ato rfl rfl rfl rfl
      ·
       refine rn tk 8 rfl ?_
       cases hr
       exact atc rfl rfl
  ·
   refine rn tk 2 rfl ?_
   cases hr
   exact ato rfl rfl rfl rfl
 ·
  refine rn tk 6 rfl ?_
  obtain ⟨v31, h32, hr⟩ := bind_some hr
  refine cl (R_In_run _ _ _ _ h32) rfl rfl ?_
  refine rn tk 4 rfl ?_
  cases hr
  exact kr tk (.inr rfl) rfl rfl
 ·
  refine rn tk 2 rfl ?_
  cases hr
  exact kr tk (.inr rfl) rfl rfl
theorem R_letterOrDigit_run (a0 : UInt8) (r : Bool) (hr : R_letterOrDigit a0 = some r) : Run Try.prog 43 [.u8 a0] (.bo r) := by
 unfold R_letterOrDigit at hr
 refine rf (fn := Try.f43) ⟨Try.func43, rfl, by kernel_rfl⟩ rfl (fun _ => rfl) fun g0 hg => ?_
 refine rn tk 8 rfl ?_
 refine wu tk rfl rfl rfl ?_
 refine rn tk 3 rfl ?_
 refine jb hr (fun j1 => [(2, .bo j1)]) (fun j1 => []) (fun j1 hr => ?_) (fun j1 hr => ?_)
 ·
  refine rn tk 2 rfl ?_
  obtain ⟨v2, h3, hr⟩ := bind_some hr
  refine cl (R_In_run _ _ _ _ h3) rfl rfl ?_
  refine rn tk 1 rfl ?_
  refine bs 8 hr rfl (fun c4 hr => ?_) (fun c4 hr => ?_)
  ·
   refine rn tk 9 rfl ?_
   cases hr
   exact jn _ rfl rfl rfl
  ·
   refine rn tk 1 rfl ?_
   obtain ⟨v5, h6, hr⟩ := bind_some hr
   refine ug rfl rfl rfl ?_
   refine cl (R_In_run _ _ _ _ h6) rfl rfl ?_
   refine rn tk 2 rfl ?_
   refine bs 12 hr rfl (fun c7 hr => ?_) (fun c7 hr => ?_)
   ·
    refine rn tk 5 rfl ?_
    cases hr
    exact jn _ rfl rfl rfl
   ·
    refine rn tk 1 rfl ?_
    obtain ⟨v8, h9, hr⟩ := bind_some hr
    refine ug rfl rfl rfl ?_
    refine cl (R_In_run _ _ _ _ h9) rfl rfl ?_
    refine rn tk 3 rfl ?_
    cases hr
    exact jn _ rfl rfl rfl
 ·
  refine rn tk 1 rfl ?_
  cases hr
  exact kr tk (.inr rfl) rfl rfl
theorem R_sign_run (a0 : Str) (r : Int) (hr : R_sign a0 = some r) : Run Try.prog 40 [.s a0] (.i r) := by
 unfold R_sign at hr
 refine rf (fn := Try.f40) ⟨Try.func40, rfl, by kernel_rfl⟩ rfl (fun _ => rfl) fun g0 hg => ?_
 refine rn tk 12 rfl ?_
 refine al2 hr (fun s1 => [(0, .s a0), (3, .i s1)]) (fun s1 => []) (.exit 0) (fun b2 => [(0, .s a0)]) (fun b2 => []) .ret (fun b3 => [(2, .i b3)]) (fun b3 => []) rfl rfl (fun s1 x5 hr => ?_) (fun b2 hr => ?_) (fun b3 hr => ?_)
 ·
  unfold R_sign_l1 at hr
  refine rn tk 9 rfl ?_
  refine ac 7 hr rfl (fun c6 hr => ?_) (fun c6 hr => ?_)
  ·
   refine rn tk 8 rfl ?_
   obtain ⟨v7, h8, hr⟩ := bind_some hr
   refine ws tk h8 rfl rfl rfl rfl ?_
   refine rn tk 3 rfl ?_
   refine ac 13 hr rfl (fun c9 hr => ?_) (fun c9 hr => ?_)
   ·
    refine rn tk 9 rfl ?_
    cases hr
    exact ato rfl rfl rfl rfl
   ·
    refine rn tk 8 rfl ?_
    cases hr
    exact atc rfl rfl
  ·
   refine rn tk 2 rfl ?_
   cases hr
   exact ato rfl rfl rfl rfl
 ·
  refine rn tk 10 rfl ?_
  cases hr
  exact kr tk (.inr rfl) rfl rfl
 ·
  refine rn tk 2 rfl ?_
  cases hr
  exact kr tk (.inr rfl) rfl rfl
theorem R_AddressOk_run (a0 : Str) (r : Bool) (hr : R_AddressOk a0 = some r) : Run Try.prog 19 [.s a0] (.bo r) := by
 unfold R_AddressOk at hr
 refine rf (fn := Try.f19) ⟨Try.func19, rfl, by kernel_rfl⟩ rfl (fun _ => rfl) fun g0 hg => ?_
 refine rn tk 8 rfl ?_
 obtain ⟨v1, h2, hr⟩ := bind_some hr
 refine cl (R_sign_run _ _ h2) rfl rfl ?_
 refine rn tk 10 rfl ?_
 refine al2 hr (fun s3 => [(0, .s a0), (3, .i v1), (4, .i s3)]) (fun s3 => []) (.exit 0) (fun b4 => [(0, .s a0), (3, .i v1)]) (fun b4 => []) .ret (fun b5 => [(2, .bo b5)]) (fun b5 => []) rfl rfl (fun s3 x7 hr => ?_) (fun b4 hr => ?_) (fun b5 hr => ?_)
 ·
  unfold R_AddressOk_l1 at hr
  refine rn tk 8 rfl ?_
  refine ac 10 hr rfl (fun c8 hr => ?_) (fun c8 hr => ?_)
  ·
   refine rn tk 8 rfl ?_
   obtain ⟨v9, h10, hr⟩ := bind_some hr
   refine ws tk h10 rfl rfl rfl rfl ?_
   refine rn tk 3 rfl ?_
   refine jb hr (fun j11 => [(0, .s a0), (3, .i v1), (4, .i s3), (38, .bo j11)]) (fun j11 => []) (fun j11 hr => ?_) (fun j11 hr => ?_)
   ·
    refine rn tk 2 rfl ?_
    obtain ⟨v12, h13, hr⟩ := bind_some hr
    refine cl (R_letterOrDigit_run _ _ h13) rfl rfl ?_
    refine rn tk 2 rfl ?_
    refine bs 19 hr rfl (fun c14 hr => ?_) (fun c14 hr => ?_)
    ·
     refine rn tk 4 rfl ?_
     refine bs 23 hr rfl (fun c15 hr => ?_) (fun c15 hr => ?_)
     ·
      refine rn tk 4 rfl ?_
      refine bs 27 hr rfl (fun c16 hr => ?_) (fun c16 hr => ?_)
      ·
       refine rn tk 4 rfl ?_
       refine bs 31 hr rfl (fun c17 hr => ?_) (fun c17 hr => ?_)
       ·
        refine rn tk 4 rfl ?_
        refine bs 35 hr rfl (fun c18 hr => ?_) (fun c18 hr => ?_)
        ·
         refine rn tk 4 rfl ?_
         cases hr
         exact jn _ rfl rfl rfl
        ·
         refine rn tk 4 rfl ?_
         cases hr
         exact jn _ rfl rfl rfl
       ·
        refine rn tk 8 rfl ?_
        cases hr
        exact jn _ rfl rfl rfl
      ·
       refine rn tk 12 rfl ?_
       cases hr
       exact jn _ rfl rfl rfl
     ·
      refine rn tk 16 rfl ?_
      cases hr
      exact jn _ rfl rfl rfl
    ·
     refine rn tk 20 rfl ?_
     cases hr
     exact jn _ rfl rfl rfl
   ·
    refine ac 38 hr rfl (fun c19 hr => ?_) (fun c19 hr => ?_)
    ·
     refine rn tk 8 rfl ?_
     cases hr
     exact ato rfl rfl rfl rfl
    ·
     refine rn tk 8 rfl ?_
     cases hr
     exact atc rfl rfl
  ·
   refine rn tk 2 rfl ?_
   cases hr
   exact ato rfl rfl rfl rfl
 ·
  refine rn tk 2 rfl ?_
  refine jb hr (fun j20 => [(2, .bo j20)]) (fun j20 => []) (fun j20 hr => ?_) (fun j20 hr => ?_)
  ·
   refine rn tk 2 rfl ?_
   obtain ⟨v21, h22, hr⟩ := bind_some hr
   refine cl (R_In_run _ _ _ _ h22) rfl rfl ?_
   refine rn tk 1 rfl ?_
   refine bs 41 hr rfl (fun c23 hr => ?_) (fun c23 hr => ?_)
   ·
    refine rn tk 6 rfl ?_
    refine bs 47 hr rfl (fun c24 hr => ?_) (fun c24 hr => ?_)
    ·
     refine rn tk 3 rfl ?_
     obtain ⟨v25, h26, hr⟩ := bind_some hr
     refine ug rfl rfl rfl ?_
     refine wscL tk h26 rfl rfl rfl rfl ?_
     obtain ⟨v27, h28, hr⟩ := bind_some hr
     refine ug rfl rfl rfl ?_
     refine cl (R_DomainOk_run _ _ h28) rfl rfl ?_
     refine rn tk 3 rfl ?_
     cases hr
     exact jn _ rfl rfl rfl
    ·
     refine rn tk 8 rfl ?_
     cases hr
     exact jn _ rfl rfl rfl
   ·
    refine rn tk 14 rfl ?_
    cases hr
    exact jn _ rfl rfl rfl
  ·
   refine rn tk 1 rfl ?_
   cases hr
   exact kr tk (.inr rfl) rfl rfl
 ·
  refine rn tk 2 rfl ?_
  cases hr
  exact kr tk (.inr rfl) rfl rfl
theorem R_Either_run (a0 : Int) (a1 : Int) (r : Int) (hr : R_Either a0 a1 = some r) : Run Try.prog 45 [.i a0, .i a1] (.i r) := by
 unfold R_Either at hr
 refine rf (fn := Try.f45) ⟨Try.func45, rfl, by kernel_rfl⟩ rfl (fun _ => rfl) fun g0 hg => ?_
 refine rn tk 17 rfl ?_
 refine al1 hr (fun s1 => [(0, .i a0), (1, .i a1), (5, .i s1.1), (6, .i s1.2)]) (fun s1 => []) (.exit 0) (fun b2 => [(5, .i b2)]) (fun b2 => []) rfl rfl (fun s1 x3 hr => ?_) (fun b2 hr => ?_)
 ·
  unfold R_Either_l1 at hr
  refine rn tk 7 rfl ?_
  refine ac 8 hr rfl (fun c4 hr => ?_) (fun c4 hr => ?_)
  ·
   refine rn tk 2 rfl ?_
   refine jb hr (fun j5 => [(0, .i a0), (1, .i a1), (5, .i j5), (6, .i s1.2)]) (fun j5 => []) (fun j5 hr => ?_) (fun j5 hr => ?_)
   ·
    refine rn tk 1 rfl ?_
    refine jb hr (fun j6 => [(0, .i a0), (1, .i a1), (5, .i s1.1), (6, .i s1.2), (22, .bo j6)]) (fun j6 => []) (fun j6 hr => ?_) (fun j6 hr => ?_)
    ·
     refine rn tk 3 rfl ?_
     obtain ⟨v7, h8, hr⟩ := bind_some hr
     refine wq (ev_iquo rfl rfl (nz_spec h8)) rfl rfl rfl ?_
     refine wq (ev_irem rfl rfl rfl) rfl rfl rfl ?_
     refine rn tk 2 rfl ?_
     refine bs 16 hr rfl (fun c9 hr => ?_) (fun c9 hr => ?_)
     ·
      refine rn tk 7 rfl ?_
      cases hr
      exact jn _ rfl rfl rfl
     ·
      refine rn tk 2 rfl ?_
      obtain ⟨v10, h11, hr⟩ := bind_some hr
      refine ug rfl rfl rfl ?_
      refine wq (ev_iquo rfl rfl (nz_spec h11)) rfl rfl rfl ?_
      refine ug rfl rfl rfl ?_
      refine wq (ev_irem rfl rfl rfl) rfl rfl rfl ?_
      refine rn tk 3 rfl ?_
      cases hr
      exact jn _ rfl rfl rfl
    ·
     refine ac 22 hr rfl (fun c12 hr => ?_) (fun c12 hr => ?_)
     ·
      refine rn tk 7 rfl ?_
      cases hr
      exact jn _ rfl rfl rfl
     ·
      refine rn tk 2 rfl ?_
      cases hr
      exact jn _ rfl rfl rfl
   ·
    refine rn tk 5 rfl ?_
    cases hr
    exact atc rfl rfl
  ·
   refine rn tk 2 rfl ?_
   cases hr
   exact ato rfl rfl rfl rfl
 ·
  refine rn tk 9 rfl ?_
  cases hr
  exact kr tk (.inr rfl) rfl rfl
theorem R_Known_run (a0 : List TRecipient) (a1 : Str) (r : Int) (hr : R_Known a0 a1 = some r) : Run Try.prog 23 [.l TRecipient.pc a0, .s a1] (.i r) := by
 unfold R_Known at hr
 refine rf (fn := Try.f23) ⟨Try.func23, rfl, by kernel_rfl⟩ rfl (fun _ => rfl) fun g0 hg => ?_
 refine rn tk 12 rfl ?_
 refine al2 hr (fun s1 => [(0, .l TRecipient.pc a0), (1, .s a1), (5, .i s1)]) (fun s1 => []) (.exit 0) (fun b2 => []) (fun b2 => []) .ret (fun b3 => [(4, .i b3)]) (fun b3 => []) rfl rfl (fun s1 x5 hr => ?_) (fun b2 hr => ?_) (fun b3 hr => ?_)
 ·
  unfold R_Known_l1 at hr
  refine rn tk 5 rfl ?_
  refine wn tk rfl rfl rfl ?_
  refine rn tk 3 rfl ?_
  refine ac 9 hr rfl (fun c6 hr => ?_) (fun c6 hr => ?_)
  ·
   refine rn tk 8 rfl ?_
   obtain ⟨v7, h8, hr⟩ := bind_some hr
   refine wi tk h8 rfl rfl rfl rfl rfl ?_
   refine rn tk 6 rfl ?_
   refine ac 18 hr rfl (fun c9 hr => ?_) (fun c9 hr => ?_)
   ·
    refine rn tk 9 rfl ?_
    cases hr
    exact ato rfl rfl rfl rfl
   ·
    refine rn tk 8 rfl ?_
    cases hr
    exact atc rfl rfl
  ·
   refine rn tk 2 rfl ?_
   cases hr
   exact ato rfl rfl rfl rfl
 ·
  refine rn tk 8 rfl ?_
  cases hr
  exact kr tk (.inr rfl) rfl rfl
 ·
  refine rn tk 2 rfl ?_
  cases hr
  exact kr tk (.inr rfl) rfl rfl
theorem R_Merged_run (a0 : List TRecipient) (r : List TRecipient) (hr : R_Merged a0 = some r) : Run Try.prog 21 [.l TRecipient.pc a0] (.l TRecipient.pc r) := by
 unfold R_Merged at hr
 refine rf (fn := Try.f21) ⟨Try.func21, rfl, by kernel_rfl⟩ rfl (fun _ => rfl) fun g0 hg => ?_
 refine rn tk 8 rfl ?_
 refine awpl_adopt 1003 (d := 3) 36 2 rfl rfl rfl (hO ?_)
 refine rn tk 9 rfl ?_
 refine al1 hr (fun s1 => [(0, .l TRecipient.pc a0), (3, .hs 1003 0), (4, .i s1.1)]) (fun s1 => [(1003, .row 36 false 2 (List.map TRecipient.pc s1.2))]) (.exit 0) (fun b2 => [(3, .hs 1003 0)]) (fun b2 => [(1003, .row 36 false 2 (List.map TRecipient.pc b2))]) rfl rfl (fun s1 x3 hr => ?_) (fun b2 hr => ?_)
 ·
  unfold R_Merged_l1 at hr
  refine rn tk 5 rfl ?_
  refine wn tk rfl rfl rfl ?_
  refine rn tk 3 rfl ?_
  refine ac 10 hr rfl (fun c4 hr => ?_) (fun c4 hr => ?_)
  ·
   refine rn tk 2 rfl ?_
   refine jb hr (fun j5 => [(0, .l TRecipient.pc a0), (3, .hs 1003 0), (4, .i s1.1)]) (fun j5 => [(1003, .row 36 false 2 (List.map TRecipient.pc j5))]) (fun j5 hr => ?_) (fun j5 hr => ?_)
   ·
    refine rn tk 7 rfl ?_
    obtain ⟨v6, h7, hr⟩ := bind_some hr
    refine wi tk h7 rfl rfl rfl rfl rfl ?_
    refine rn tk 2 rfl ?_
    refine awpl_pub (d := 13) (F := TRecipient.pc) (l := s1.2) rfl rfl (hO ?_)
    obtain ⟨v8, h9, hr⟩ := bind_some hr
    refine cl (R_Known_run _ _ _ h9) rfl rfl ?_
    refine rn tk 3 rfl ?_
    refine ac 20 hr rfl (fun c10 hr => ?_) (fun c10 hr => ?_)
    ·
     refine rn tk 3 rfl ?_
     cases hr
     exact jn _ rfl rfl rfl
    ·
     refine rn tk 6 rfl ?_
     obtain ⟨v11, h12, hr⟩ := bind_some hr
     refine wi tk h12 rfl rfl rfl rfl rfl ?_
     refine rn tk 14 rfl ?_
     refine al1 hr (fun s13 => [(0, .l TRecipient.pc a0), (3, .hs 1003 0), (4, .i s1.1), (5, .ptr 5 0), (6, .i s13.1)]) (fun s13 => [(5, .cells [.s v11.Address, .i s13.2]), (1003, .row 36 false 2 (List.map TRecipient.pc s1.2))]) (.exit 2) (fun b14 => [(0, .l TRecipient.pc a0), (3, .hs 1003 0), (4, .i s1.1), (5, .ptr 5 0)]) (fun b14 => [(5, .cells [.s v11.Address, .i b14]), (1003, .row 36 false 2 (List.map TRecipient.pc s1.2))]) rfl rfl (fun s13 x15 hr => ?_) (fun b14 hr => ?_)
     ·
      unfold R_Merged_l2 at hr
      refine rn tk 5 rfl ?_
      refine wn tk rfl rfl rfl ?_
      refine rn tk 3 rfl ?_
      refine ac 30 hr rfl (fun c16 hr => ?_) (fun c16 hr => ?_)
      ·
       refine rn tk 2 rfl ?_
       refine jb hr (fun j17 => [(0, .l TRecipient.pc a0), (3, .hs 1003 0), (4, .i s1.1), (5, .ptr 5 0), (6, .i s13.1)]) (fun j17 => [(5, .cells [.s v11.Address, .i j17]), (1003, .row 36 false 2 (List.map TRecipient.pc s1.2))]) (fun j17 hr => ?_) (fun j17 hr => ?_)
       ·
        refine rn tk 2 rfl ?_
        obtain ⟨v18, h19, hr⟩ := bind_some hr
        refine dr 7 [(39, .s v11.Address), (38, .ptr 5 0), (37, .s v18.Address), (36, .ep [pS v18.Address, pI v18.Notify]), (35, .ep [pS v18.Address, pI v18.Notify]), (34, .i s13.1), (33, .l TRecipient.pc a0)] mixed (by kernel_rfl) rfl rfl (pq tk rfl (.plain rfl) (pq tk rfl (.plain rfl) (.run (.plain rfl) (opG_q (ev_idx (f := TRecipient.pc) rfl rfl ty_s_api_Recipient ty_api_Recipient rfl h19)) (pq tk rfl (.plain rfl) (pq tk rfl (.plain rfl) (pq tk rfl (.plain rfl) (pq tk rfl (.plain rfl) .nil))))))) rfl ?_
        refine rn tk 3 rfl ?_
        refine ac 40 hr rfl (fun c20 hr => ?_) (fun c20 hr => ?_)
        ·
         obtain ⟨v21, h22, hr⟩ := bind_some hr
         refine dr 7 [(47, .i v21.Notify), (46, .ep [pI v21.Notify]), (45, .ep [pS v21.Address, pI v21.Notify]), (44, .i s13.1), (43, .l TRecipient.pc a0), (42, .i s13.2), (41, .ptr 5 1)] mixed (by kernel_rfl) rfl rfl (pq tk rfl (.plain rfl) (pq tk rfl (.plain rfl) (pq tk rfl (.plain rfl) (pq tk rfl (.plain rfl) (.run (.plain rfl) (opG_q (ev_idx (f := TRecipient.pc) rfl rfl ty_s_api_Recipient ty_api_Recipient rfl h22)) (pq tk rfl (.plain rfl) (pq tk rfl (.plain rfl) .nil))))))) rfl ?_
         obtain ⟨v23, h24, hr⟩ := bind_some hr
         refine cl (R_Either_run _ _ _ h24) rfl rfl ?_
         refine rn tk 4 rfl ?_
         cases hr
         exact jn _ rfl rfl rfl
        ·
         refine rn tk 2 rfl ?_
         cases hr
         exact jn _ rfl rfl rfl
       ·
        refine rn tk 5 rfl ?_
        cases hr
        exact atc rfl rfl
      ·
       refine rn tk 2 rfl ?_
       cases hr
       exact ato rfl rfl rfl rfl
     ·
      refine rn tk 5 rfl ?_
      refine wz TRecipient.pc ([(TRecipient.mk v11.Address b14)] : List TRecipient) tk rfl rfl (fun _ => rfl) rfl rfl rfl ?_
      obtain ⟨v25, h26, hr⟩ := bind_some hr
      refine wa tk h26 rfl rfl rfl rfl (fun _ => rfl) rfl rfl ?_
      refine rn tk 3 rfl ?_
      cases hr
      exact jn _ rfl rfl rfl
   ·
    refine rn tk 5 rfl ?_
    cases hr
    exact atc rfl rfl
  ·
   refine rn tk 2 rfl ?_
   cases hr
   exact ato rfl rfl rfl rfl
 ·
  refine rn tk 8 rfl ?_
  refine awp_pub (d := 2) (F := TRecipient.pc) (l := b2) rfl rfl (hC ?_)
  refine rn tk 1 rfl ?_
  cases hr
  exact kr tk (.inr rfl) rfl rfl
theorem L_EnvelopeMergeMatchesSpec_run (a0 : List TRecipient) (r : Bool) (hr : L_EnvelopeMergeMatchesSpec a0 = some r) : Run Try.prog 4 [.l TRecipient.pc a0] (.bo r) := by
 unfold L_EnvelopeMergeMatchesSpec at hr
 refine rf (fn := Try.f4) ⟨Try.func4, rfl, by kernel_rfl⟩ rfl (fun _ => rfl) fun g0 hg => ?_
 refine rn tk 8 rfl ?_
 obtain ⟨v1, h2, hr⟩ := bind_some hr
 refine cl (envelope_Merge_run _ _ h2) rfl rfl ?_
 refine rn tk 15 rfl ?_
 refine jb hr (fun j3 => [(0, .l TRecipient.pc a0), (3, .l TRecipient.pc v1.1), (4, .ptr 4 0), (5, .ptr 5 0)]) (fun j3 => [(5, .cells [.i j3.1, .i j3.2]), (4, .cells [.i v1.2.Code, .i v1.2.Index])]) (fun j3 hr => ?_) (fun j3 hr => ?_)
 ·
  refine rn tk 3 rfl ?_
  refine wn tk rfl rfl rfl ?_
  refine rn tk 3 rfl ?_
  refine ac 15 hr rfl (fun c4 hr => ?_) (fun c4 hr => ?_)
  ·
   refine rn tk 1 rfl ?_
   obtain ⟨v5, h6, hr⟩ := bind_some hr
   refine cl (R_At_run _ _ _ h6) rfl rfl ?_
   refine rn tk 2 rfl ?_
   cases hr
   exact jn _ rfl rfl rfl
  ·
   refine rn tk 1 rfl ?_
   cases hr
   exact jn _ rfl rfl rfl
 ·
  refine rn tk 7 rfl ?_
  refine al1 hr (fun s7 => [(0, .l TRecipient.pc a0), (3, .l TRecipient.pc v1.1), (4, .ptr 4 0), (5, .ptr 5 0), (6, .i s7.1)]) (fun s7 => [(5, .cells [.i s7.2.1, .i s7.2.2]), (4, .cells [.i v1.2.Code, .i v1.2.Index])]) (.exit 0) (fun b8 => [(0, .l TRecipient.pc a0), (3, .l TRecipient.pc v1.1), (4, .ptr 4 0), (5, .ptr 5 0)]) (fun b8 => [(5, .cells [.i b8.1, .i b8.2]), (4, .cells [.i v1.2.Code, .i v1.2.Index])]) rfl rfl (fun s7 x9 hr => ?_) (fun b8 hr => ?_)
  ·
   unfold L_EnvelopeMergeMatchesSpec_l1 at hr
   refine rn tk 1 rfl ?_
   refine jb hr (fun j10 => [(0, .l TRecipient.pc a0), (3, .l TRecipient.pc v1.1), (4, .ptr 4 0), (5, .ptr 5 0), (6, .i s7.1), (25, .bo j10)]) (fun j10 => [(5, .cells [.i s7.2.1, .i s7.2.2]), (4, .cells [.i v1.2.Code, .i v1.2.Index])]) (fun j10 hr => ?_) (fun j10 hr => ?_)
   ·
    refine rn tk 3 rfl ?_
    refine wn tk rfl rfl rfl ?_
    refine rn tk 2 rfl ?_
    refine bs 21 hr rfl (fun c11 hr => ?_) (fun c11 hr => ?_)
    ·
     refine rn tk 5 rfl ?_
     cases hr
     exact jn _ rfl rfl rfl
    ·
     refine rn tk 5 rfl ?_
     cases hr
     exact jn _ rfl rfl rfl
   ·
    refine ac 25 hr rfl (fun c12 hr => ?_) (fun c12 hr => ?_)
    ·
     refine rn tk 2 rfl ?_
     refine jb hr (fun j13 => [(0, .l TRecipient.pc a0), (3, .l TRecipient.pc v1.1), (4, .ptr 4 0), (5, .ptr 5 0), (6, .i s7.1)]) (fun j13 => [(5, .cells [.i j13.1, .i j13.2]), (4, .cells [.i v1.2.Code, .i v1.2.Index])]) (fun j13 hr => ?_) (fun j13 hr => ?_)
     ·
      refine rn tk 5 rfl ?_
      obtain ⟨v14, h15, hr⟩ := bind_some hr
      refine wi tk h15 rfl rfl rfl rfl rfl ?_
      refine rn tk 2 rfl ?_
      obtain ⟨v16, h17, hr⟩ := bind_some hr
      refine cl (R_AddressOk_run _ _ h17) rfl rfl ?_
      refine rn tk 3 rfl ?_
      refine ac 34 hr rfl (fun c18 hr => ?_) (fun c18 hr => ?_)
      ·
       refine rn tk 2 rfl ?_
       obtain ⟨v19, h20, hr⟩ := bind_some hr
       refine cl (R_At_run _ _ _ h20) rfl rfl ?_
       refine rn tk 3 rfl ?_
       cases hr
       exact jn _ rfl rfl rfl
      ·
       refine rn tk 4 rfl ?_
       obtain ⟨v21, h22, hr⟩ := bind_some hr
       refine wi tk h22 rfl rfl rfl rfl rfl ?_
       refine rn tk 2 rfl ?_
       obtain ⟨v23, h24, hr⟩ := bind_some hr
       refine cl (R_In_run _ _ _ _ h24) rfl rfl ?_
       refine rn tk 3 rfl ?_
       refine ac 43 hr rfl (fun c25 hr => ?_) (fun c25 hr => ?_)
       ·
        refine rn tk 2 rfl ?_
        obtain ⟨v26, h27, hr⟩ := bind_some hr
        refine cl (R_At_run _ _ _ h27) rfl rfl ?_
        refine rn tk 3 rfl ?_
        cases hr
        exact jn _ rfl rfl rfl
       ·
        refine rn tk 2 rfl ?_
        cases hr
        exact jn _ rfl rfl rfl
     ·
      refine rn tk 5 rfl ?_
      cases hr
      exact atc rfl rfl
    ·
     refine rn tk 2 rfl ?_
     cases hr
     exact ato rfl rfl rfl rfl
  ·
   refine rn tk 3 rfl ?_
   refine jb hr (fun j28 => [(0, .l TRecipient.pc a0), (3, .l TRecipient.pc v1.1), (4, .ptr 4 0), (5, .ptr 5 0), (57, .bo j28)]) (fun j28 => [(5, .cells [.i b8.1, .i b8.2]), (4, .cells [.i v1.2.Code, .i v1.2.Index])]) (fun j28 hr => ?_) (fun j28 hr => ?_)
   ·
    refine rn tk 1 rfl ?_
    obtain ⟨v29, h30, hr⟩ := bind_some hr
    refine cl (L_envelopes_run _ h30) rfl rfl ?_
    refine rn tk 2 rfl ?_
    refine bs 48 hr rfl (fun c31 hr => ?_) (fun c31 hr => ?_)
    ·
     refine rn tk 10 rfl ?_
     cases hr
     exact jn _ rfl rfl rfl
    ·
     refine rn tk 2 rfl ?_
     refine ug rfl rfl rfl ?_
     refine wq (ev_structne rfl rfl ty_api_Fault cmp_api_Fault (.int rfl (by decide) ty_int (.int rfl (by decide) ty_int .nil))) rfl rfl rfl ?_
     refine rn tk 2 rfl ?_
     refine bs 53 hr rfl (fun c32 hr => ?_) (fun c32 hr => ?_)
     ·
      refine rn tk 5 rfl ?_
      cases hr
      exact jn _ rfl rfl rfl
     ·
      refine rn tk 5 rfl ?_
      cases hr
      exact jn _ rfl rfl rfl
   ·
    refine ac 57 hr rfl (fun c33 hr => ?_) (fun c33 hr => ?_)
    ·
     refine jb hr (fun j34 => [(2, .bo j34)]) (fun j34 => []) (fun j34 hr => ?_) (fun j34 hr => ?_)
     ·
      refine rn tk 1 rfl ?_
      obtain ⟨v35, h36, hr⟩ := bind_some hr
      refine cl (L_envelopes_run _ h36) rfl rfl ?_
      refine rn tk 1 rfl ?_
      refine bs 59 hr rfl (fun c37 hr => ?_) (fun c37 hr => ?_)
      ·
       refine rn tk 2 rfl ?_
       refine ug rfl rfl rfl ?_
       refine wq (ev_structeq rfl rfl ty_api_Fault cmp_api_Fault (.int rfl (by decide) ty_int (.int rfl (by decide) ty_int .nil))) rfl rfl rfl ?_
       refine rn tk 2 rfl ?_
       refine bs 64 hr rfl (fun c38 hr => ?_) (fun c38 hr => ?_)
       ·
        refine rn tk 1 rfl ?_
        refine ug rfl rfl rfl ?_
        refine wn tk rfl rfl rfl ?_
        refine rn tk 4 rfl ?_
        cases hr
        exact jn _ rfl rfl rfl
       ·
        refine rn tk 6 rfl ?_
        cases hr
        exact jn _ rfl rfl rfl
      ·
       refine rn tk 11 rfl ?_
       cases hr
       exact jn _ rfl rfl rfl
     ·
      refine rn tk 2 rfl ?_
      cases hr
      exact kr tk (.inr rfl) rfl rfl
    ·
     refine rn tk 6 rfl ?_
     obtain ⟨v39, h40, hr⟩ := bind_some hr
     refine cl (R_Merged_run _ _ h40) rfl rfl ?_
     obtain ⟨v41, h42, hr⟩ := bind_some hr
     refine cl (R_SameRecipients_run _ _ _ h42) rfl rfl ?_
     refine rn tk 4 rfl ?_
     cases hr
     exact kr tk (.inr rfl) rfl rfl
end Go.Proofs.Ytfhfjckjmacekaa

namespace Go.Proofs.Ytfhfjckjmacekaa.envelopeMergeMatchesSpec
open Go.ChangeShapes Go.WideShapes Go.ChangeAt Go.RowKit
set_option linter.unusedVariables false
set_option maxRecDepth 100000

theorem contract (H : Type) (enc : TypeId × Value → H) (W : World) (base : Nat) (args : Array Value) (ds gs : List (DataW H)) (before : List MemPlace)
    (hval : ∀ (j : Nat) t v, Try.f4.params[j]? = some t → args[j]? = some v → Value.okWide Try.prog W .any base t v)
    (hW : DataW.Whole enc Try.prog Try.f4.params.toList Rows.envelopeMergeMatchesSpecSpec.vars false W args.toList ds gs before) (hk : Rows.uptoSmall H (ds ++ gs) = true) (hgl : Gl (gAll W)) :
    Calls Try.prog 4 args W fun e W' => ∃ v, e = .returned v ∧ Rows.envelopeMergeMatchesSpecSpec.post enc Try.prog Try.f4 false true false false W args v W' := by
  have hW' := hW
  obtain ⟨p, q, hA0, hV, rfl, hfz, hnd⟩ := hW
  have hA : DataW.TrodAll enc Try.prog W 0 (fun _ => true) true Try.f4.params.toList args.toList ds p := hA0
  rw [Try.params4] at hA hval
  obtain ⟨v0, vs0, d0, ds0, p0, q0, hargs, rfl, rfl, h0, r0⟩ := trodAll_cons hA
  obtain ⟨rfl, rfl, rfl⟩ := trodAll_nil r0
  obtain rfl : args = #[v0] := by cases args; simp_all
  obtain ⟨rfl, rfl⟩ := trodVars_none hV
  obtain ⟨a0, e0, o0, k0⟩ := arg_one op_s_api_Recipient (by obtain ⟨_, _, _, h⟩ := okWide_slice ty_s_api_Recipient.u (hval 0 _ v0 rfl rfl); rw [h]; rfl) h0
  have hk2 := of_decide_eq_true hk
  simp only [List.append_nil, Rows.uptoBulkAll] at hk2
  have ht := L_EnvelopeMergeMatchesSpec_true a0 o0 (by (try dsimp only); omega)
  have key : Calls Try.prog 4 #[v0] W fun e W' => e = .returned (.bool true) ∧ Below W.heap.size W W' := calls_of_run (L_EnvelopeMergeMatchesSpec_run a0 true ht) hgl (relArgs_of (.cons (e0 _ rfl) .nil))
  refine key.mono fun e W' ⟨he, hb⟩ => ⟨_, he, ?_⟩
  exact post_true laidOut (by kernel_rfl) Try.underlying4 (by kernel_rfl) rfl rfl hW' hb

theorem lifted (os : Os) (started : os.Started) (H : Type) (enc : TypeId × Value → H) (F : Stop.Interp) :
    ReturnsInHanded {} Try.checked os 4 .any ((Rows.OpenSpec.upto Rows.envelopeMergeMatchesSpecSpec).pre6 enc Try.prog Try.f4 Rows.envelopeMergeMatchesSpecUptoRow.domain false) (((Rows.OpenSpec.upto Rows.envelopeMergeMatchesSpecSpec).at F).post enc Try.prog Try.f4 false true false false) := by
  refine returnsInHanded_of_cond_shaped (C := Try.checked) (s := Rows.OpenSpec.upto Rows.envelopeMergeMatchesSpecSpec) (k := Rows.uptoSmall) rfl own started (by kernel_rfl) Try.func4
    (OpenSpec.witness (enc := enc) (C := Try.checked) (s := Rows.OpenSpec.upto Rows.envelopeMergeMatchesSpecSpec) (k := Rows.uptoSmall) rfl false ⟨#[], #[.slice none 0 0], []⟩ 8 (by kernel_rfl) (by kernel_rfl) (by kernel_rfl)
      (x := ([.nil], [], [])) (by kernel_rfl) rfl (by kernel_rfl)) ?_
  intro W base args ds gs before hval hW _ hk hsh _
  exact contract H enc W base args ds gs before hval hW hk (gl_of_shaped hsh)

theorem over : Rows.envelopeMergeMatchesSpecUptoRow.holds Try.pinned (Rows.OpenSpec.upto Rows.envelopeMergeMatchesSpecSpec) :=
  OpenClaim.holds_of_cond 4 Try.f4 rfl rfl rfl rfl rfl rfl rfl ⟨rfl, rfl, rfl, rfl, rfl⟩ rfl rfl rfl rfl rfl (by kernel_rfl) Try.func4 (by kernel_rfl)
    (of_decide_eq_true (by kernel_rfl)) (by unfold Func.isWrapper; first | (rw [if_pos (by decide +kernel)]; kernel_rfl) | (rw [if_neg (by decide +kernel)]; exact ⟨rfl, rfl⟩))
    (fun os started H enc _ F => lifted os started H enc F)

theorem proved : Rows.EnvelopeMergeMatchesSpecUptoSaid := over
#print axioms proved
end Go.Proofs.Ytfhfjckjmacekaa.envelopeMergeMatchesSpec
