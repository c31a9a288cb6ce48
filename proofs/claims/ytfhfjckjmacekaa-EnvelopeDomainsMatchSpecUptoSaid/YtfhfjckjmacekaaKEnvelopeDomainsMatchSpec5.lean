/- The law EnvelopeDomainsMatchSpec holds for every input of bulk up to the given bound: it returns true and leaves its arguments as they were. Written by program. -/
import Derived.Test.YtfhfjckjmacekaaKEnvelopeDomainsMatchSpec4
import Derived.WalkKit
import Derived.WalkSpells
import Derived.WalkLawsBesides
import Derived.Deep.QuietTactic
import Derived.BigQuiet
import Derived.Lib.Hide
import Derived.Handy
import Derived.Deep.RegionHeld3
import Derived.Test.YtfhfjckjmacekaaRows
import Derived.ProofKit
import Derived.OpenShut
import Derived.ShutString
import Derived.ChangeOld
import Derived.Below
import Derived.JoinedCond
import Derived.HandedShaped
import Derived.Shelf.Vars
/- A function of the program computes what its Lean function does. Written by program. -/
namespace Go.Proofs.Ytfhfjckjmacekaa
open Go.RowKit
set_option maxRecDepth 100000
set_option maxHeartbeats 40000000
set_option linter.unusedVariables false
theorem envelope_For_run (a0 : TEnvelope) (a1 : Str) (r : TEnvelope × TFault) (hr : envelope_For a0 a1 = some r) : Run Try.prog 11 [.agg [.s a0.From, .l TRecipient.pc a0.To, .s a0.Id], .s a1] (.tup [.agg [.s r.1.From, .l TRecipient.pc r.1.To, .s r.1.Id], .agg [.i r.2.Code, .i r.2.Index]]) := by
 unfold envelope_For at hr
 refine rf (fn := Try.f11) ⟨Try.func11, rfl, by kernel_rfl⟩ rfl (fun _ => rfl) fun g0 hg => ?_
 refine rn tk 12 rfl ?_
 obtain ⟨v1, h2, hr⟩ := bind_some hr
 refine cl (envelope_Validate_run _ _ h2) rfl rfl ?_
 refine rn tk 7 rfl ?_
 obtain ⟨v3, h4, hr⟩ := bind_some hr
 refine cl (basic_Failed_run _ _ h4) rfl rfl ?_
 refine rn tk 2 rfl ?_
 refine ac 10 hr rfl (fun c5 hr => ?_) (fun c5 hr => ?_)
 ·
  refine rn tk 1 rfl ?_
  refine awp_explore [([false, false, false, false], [(4, .ptr 4 0), (5, .ptr 5 0), (6, .ptr 6 0)], [(6, .cells [.i v1.Code, .i v1.Index]), (5, .cells [.i 0, .i 0]), (4, .cells [.s (([] : Str)), .pv (.sl (some true) []), .s (([] : Str))]), (3, .cells [.s a1]), (2, .cells [.s a0.From, .l TRecipient.pc a0.To, .s a0.Id])]), ([true, false, false, false], [(4, .ptr 4 0), (5, .ptr 5 0), (6, .ptr 6 0), (11, .agg [.s (([] : Str)), .pv (.sl (some true) []), .s (([] : Str))])], [(6, .cells [.i v1.Code, .i v1.Index]), (5, .cells [.i 0, .i 0]), (4, .cells [.s (([] : Str)), .pv (.sl (some true) []), .s (([] : Str))]), (3, .cells [.s a1]), (2, .cells [.s a0.From, .l TRecipient.pc a0.To, .s a0.Id])]), ([false, true, false, false], [(4, .ptr 4 0), (5, .ptr 5 0), (6, .ptr 6 0), (12, .agg [.i v1.Code, .i v1.Index])], [(6, .cells [.i v1.Code, .i v1.Index]), (5, .cells [.i 0, .i 0]), (4, .cells [.s (([] : Str)), .pv (.sl (some true) []), .s (([] : Str))]), (3, .cells [.s a1]), (2, .cells [.s a0.From, .l TRecipient.pc a0.To, .s a0.Id])]), ([true, true, false, false], [(4, .ptr 4 0), (5, .ptr 5 0), (6, .ptr 6 0), (11, .agg [.s (([] : Str)), .pv (.sl (some true) []), .s (([] : Str))]), (12, .agg [.i v1.Code, .i v1.Index])], [(6, .cells [.i v1.Code, .i v1.Index]), (5, .cells [.i 0, .i 0]), (4, .cells [.s (([] : Str)), .pv (.sl (some true) []), .s (([] : Str))]), (3, .cells [.s a1]), (2, .cells [.s a0.From, .l TRecipient.pc a0.To, .s a0.Id])]), ([true, false, true, false], [(4, .ptr 4 0), (5, .ptr 5 0), (6, .ptr 6 0), (11, .agg [.s (([] : Str)), .pv (.sl (some true) []), .s (([] : Str))])], [(6, .cells [.i v1.Code, .i v1.Index]), (5, .cells [.i 0, .i 0]), (4, .cells [.s (([] : Str)), .pv (.sl (some true) []), .s (([] : Str))]), (3, .cells [.s a1]), (2, .cells [.s a0.From, .l TRecipient.pc a0.To, .s a0.Id])]), ([true, true, true, false], [(4, .ptr 4 0), (5, .ptr 5 0), (6, .ptr 6 0), (11, .agg [.s (([] : Str)), .pv (.sl (some true) []), .s (([] : Str))]), (12, .agg [.i v1.Code, .i v1.Index])], [(6, .cells [.i v1.Code, .i v1.Index]), (5, .cells [.i 0, .i 0]), (4, .cells [.s (([] : Str)), .pv (.sl (some true) []), .s (([] : Str))]), (3, .cells [.s a1]), (2, .cells [.s a0.From, .l TRecipient.pc a0.To, .s a0.Id])]), ([true, true, true, true], [(4, .ptr 4 0), (5, .ptr 5 0), (6, .ptr 6 0), (11, .agg [.s (([] : Str)), .pv (.sl (some true) []), .s (([] : Str))]), (12, .agg [.i v1.Code, .i v1.Index])], [(6, .cells [.i v1.Code, .i v1.Index]), (5, .cells [.i v1.Code, .i v1.Index]), (4, .cells [.s (([] : Str)), .pv (.sl (some true) []), .s (([] : Str))]), (3, .cells [.s a1]), (2, .cells [.s a0.From, .l TRecipient.pc a0.To, .s a0.Id])])] mixed (by kernel_rfl) rfl rfl (frLe_cons rfl (frLe_cons rfl (frLe_cons rfl frLe_nil))) (stoLe_cons rfl (stoLe_cons rfl (stoLe_cons rfl (stoLe_cons rfl (stoLe_cons rfl stoLe_nil))))) (.cons (.step [0, 1] (by kernel_rfl) rfl (.cons (.yes 1 rfl (wanted_plain rfl) (opTo_q (d := 11) rfl rfl (ev_build (cs := [.s (([] : Str)), .pv (.sl (some true) []), .s (([] : Str))]) ty_api_Envelope pl_api_Envelope (.inr ⟨rfl, rfl⟩) rfl)) rfl (frLe_cons rfl (frLe_cons rfl (frLe_cons rfl (frLe_cons rfl frLe_nil)))) (stoLe_cons rfl (stoLe_cons rfl (stoLe_cons rfl (stoLe_cons rfl (stoLe_cons rfl stoLe_nil)))))) (.cons (.yes 2 rfl (wanted_plain rfl) (opTo_q (d := 12) rfl rfl (ev_loadN rfl rfl ty_api_Fault rfl rfl)) rfl (frLe_cons rfl (frLe_cons rfl (frLe_cons rfl (frLe_cons rfl frLe_nil)))) (stoLe_cons rfl (stoLe_cons rfl (stoLe_cons rfl (stoLe_cons rfl (stoLe_cons rfl stoLe_nil)))))) .nil))) (.cons (.step [1, 2] (by kernel_rfl) rfl (.cons (.yes 3 rfl (wanted_plain rfl) (opTo_q (d := 12) rfl rfl (ev_loadN rfl rfl ty_api_Fault rfl rfl)) rfl (frLe_cons rfl (frLe_cons rfl (frLe_cons rfl (frLe_cons rfl (frLe_cons rfl frLe_nil))))) (stoLe_cons rfl (stoLe_cons rfl (stoLe_cons rfl (stoLe_cons rfl (stoLe_cons rfl stoLe_nil)))))) (.cons (.yes 4 rfl (wanted_plain rfl) (opTo_store rfl rfl rfl ty_api_Envelope rfl rfl) rfl (frLe_cons rfl (frLe_cons rfl (frLe_cons rfl (frLe_cons rfl frLe_nil)))) (stoLe_cons rfl (stoLe_cons rfl (stoLe_cons rfl (stoLe_cons rfl (stoLe_cons rfl stoLe_nil)))))) .nil))) (.cons (.step [0] (by kernel_rfl) rfl (.cons (.yes 3 rfl (wanted_plain rfl) (opTo_q (d := 11) rfl rfl (ev_build (cs := [.s (([] : Str)), .pv (.sl (some true) []), .s (([] : Str))]) ty_api_Envelope pl_api_Envelope (.inr ⟨rfl, rfl⟩) rfl)) rfl (frLe_cons rfl (frLe_cons rfl (frLe_cons rfl (frLe_cons rfl (frLe_cons rfl frLe_nil))))) (stoLe_cons rfl (stoLe_cons rfl (stoLe_cons rfl (stoLe_cons rfl (stoLe_cons rfl stoLe_nil)))))) .nil)) (.cons (.step [2] (by kernel_rfl) rfl (.cons (.yes 5 rfl (wanted_plain rfl) (opTo_store rfl rfl rfl ty_api_Envelope rfl rfl) rfl (frLe_cons rfl (frLe_cons rfl (frLe_cons rfl (frLe_cons rfl (frLe_cons rfl frLe_nil))))) (stoLe_cons rfl (stoLe_cons rfl (stoLe_cons rfl (stoLe_cons rfl (stoLe_cons rfl stoLe_nil)))))) .nil)) (.cons (.step [1] (by kernel_rfl) rfl (.cons (.yes 5 rfl (wanted_plain rfl) (opTo_q (d := 12) rfl rfl (ev_loadN rfl rfl ty_api_Fault rfl rfl)) rfl (frLe_cons rfl (frLe_cons rfl (frLe_cons rfl (frLe_cons rfl (frLe_cons rfl frLe_nil))))) (stoLe_cons rfl (stoLe_cons rfl (stoLe_cons rfl (stoLe_cons rfl (stoLe_cons rfl stoLe_nil)))))) .nil)) (.cons (.step [3] (by kernel_rfl) rfl (.cons (.yes 6 rfl (wanted_plain rfl) (opTo_store rfl rfl rfl ty_api_Fault rfl rfl) rfl (frLe_cons rfl (frLe_cons rfl (frLe_cons rfl (frLe_cons rfl (frLe_cons rfl frLe_nil))))) (stoLe_cons rfl (stoLe_cons rfl (stoLe_cons rfl (stoLe_cons rfl (stoLe_cons rfl stoLe_nil)))))) .nil)) (.cons (.full (by kernel_rfl) (hA ?_)) .nil)))))))
  refine rn tk 3 rfl ?_
  cases hr
  exact kr tk (.inr rfl) rfl rfl
 ·
  refine rn tk 6 rfl ?_
  refine ct hr (fun j6 => [(2, .ptr 2 0), (3, .ptr 3 0), (4, .ptr 4 0), (5, .ptr 5 0), (15, .hs 2002 0)]) (fun j6 => [(2002, .row 36 true 2 (List.map TRecipient.pc j6)), (5, .cells [.i 0, .i 0]), (4, .cells [.s (([] : Str)), .l TRecipient.pc ([]), .s (([] : Str))]), (3, .cells [.s a1]), (2, .cells [.s a0.From, .l TRecipient.pc a0.To, .s a0.Id])]) (fun j6 hr jump1 => ?_) (fun j6 hr => ?_)
  ·
   refine il (fn := Try.f37) (args := [.l TRecipient.pc a0.To]) 100000 199999 [(2, .ptr 2 0), (3, .ptr 3 0), (4, .ptr 4 0), (5, .ptr 5 0)] rfl ⟨Try.func37, rfl, by kernel_rfl⟩ rfl rfl rfl fun T1 ds1 => ?_
   refine rn tk 3 rfl ?_
   refine awpl_adoptM 1002 (d := 2) 36 2 rfl rfl rfl (hO ?_)
   refine rn tk 6 rfl ?_
   refine awpl_isnil (d := 3) (F := TRecipient.pc) (l := a0.To) rfl rfl rfl ty_s_api_Recipient (fun c7 => hO ?_) (hO ?_)
   ·
    replace hr := nilE_nil c7 hr
    refine rn tk 6 rfl ?_
    refine awpl_adoptM 2002 (d := 2) 36 2 rfl rfl rfl (hO ?_)
    refine rn tk 4 rfl ?_
    refine ie tk [.hs 2002 0] [(2, .ptr 2 0), (3, .ptr 3 0), (4, .ptr 4 0), (5, .ptr 5 0)] [(2002, .row 36 true 2 (List.map TRecipient.pc (([] : List TRecipient)))), (1002, .row 36 true 2 (List.map TRecipient.pc (([] : List TRecipient)))), (6, .cells [.i v1.Code, .i v1.Index]), (5, .cells [.i 0, .i 0]), (4, .cells [.s (([] : Str)), .pv (.sl (some true) []), .s (([] : Str))]), (3, .cells [.s a1]), (2, .cells [.s a0.From, .l TRecipient.pc a0.To, .s a0.Id])] (.inr rfl) rfl rfl rfl rfl ?_
    cases hr
    exact jump1 _ _ rfl rfl
   ·
    replace hr := nilE_not hr
    refine rn tk 7 rfl ?_
    refine wo (opTo_litz (k := 5) rfl ty_s_api_Recipient ty_api_Recipient) rfl ?_
    refine rn tk 1 rfl ?_
    obtain ⟨v8, h9, hr⟩ := bind_some hr
    refine wo (opTo_appendz (k := 7) (F := TRecipient.pc) (xs := a0.To) (lim := 5864062014805) 2002 rfl rfl rfl ty_s_api_Recipient ty_api_Recipient rfl rfl (fun _ => rfl) rfl rfl rfl h9) rfl ?_
    refine rn tk 4 rfl ?_
    refine ie tk [.hs 2002 0] [(2, .ptr 2 0), (3, .ptr 3 0), (4, .ptr 4 0), (5, .ptr 5 0)] [(2002, .row 36 true 2 (List.map TRecipient.pc v8)), (1002, .row 36 true 2 (List.map TRecipient.pc (([] : List TRecipient)))), (6, .cells [.i v1.Code, .i v1.Index]), (5, .cells [.i 0, .i 0]), (4, .cells [.s (([] : Str)), .pv (.sl (some true) []), .s (([] : Str))]), (3, .cells [.s a1]), (2, .cells [.s a0.From, .l TRecipient.pc a0.To, .s a0.Id])] (.inr rfl) rfl rfl rfl rfl ?_
    cases hr
    exact jump1 _ _ rfl rfl
  ·
   refine rn tk 1 rfl ?_
   refine ct hr (fun j10 => [(2, .ptr 2 0), (4, .ptr 4 0), (5, .ptr 5 0), (17, .l TRecipient.pc j10)]) (fun j10 => [(5, .cells [.i 0, .i 0]), (4, .cells [.s (([] : Str)), .l TRecipient.pc ([]), .s (([] : Str))]), (2, .cells [.s a0.From, .l TRecipient.pc a0.To, .s a0.Id])]) (fun j10 hr jump2 => ?_) (fun j10 hr => ?_)
   ·
    refine il (fn := Try.f36) (args := [.hs 2002 0, .fn (.func 38) [] [.ptr 3 0]]) 200000 299999 [(2, .ptr 2 0), (4, .ptr 4 0), (5, .ptr 5 0)] rfl ⟨Try.func36, rfl, by kernel_rfl⟩ rfl rfl rfl fun T2 ds2 => ?_
    refine rn tk 9 rfl ?_
    refine ct hr (fun j11 => [(0, .hs 2002 0), (1, .fn (.func 38) [] [.ptr 3 0]), (10, .i j11)]) (fun j11 => [(299999, .sus g0.w.heap.size ds2), (200002, .hold (.ptr 2 0) (T2.getD 2 undef)), (200004, .hold (.ptr 4 0) (T2.getD 4 undef)), (200005, .hold (.ptr 5 0) (T2.getD 5 undef)), (2002, .row 36 true 2 (List.map TRecipient.pc j6)), (5, .cells [.i 0, .i 0]), (4, .cells [.s (([] : Str)), .l TRecipient.pc ([]), .s (([] : Str))]), (3, .cells [.s a1]), (2, .cells [.s a0.From, .l TRecipient.pc a0.To, .s a0.Id])]) (fun j11 hr jump3 => ?_) (fun j11 hr => ?_)
    ·
     refine il (fn := Try.f63) (args := [.hs 2002 0, .fn (.func 38) [] [.ptr 3 0]]) 300000 399999 [(0, .hs 2002 0), (1, .fn (.func 38) [] [.ptr 3 0])] rfl ⟨Try.func63, rfl, by kernel_rfl⟩ rfl rfl rfl fun T3 ds3 => ?_
     refine rn tk 9 rfl ?_
     refine wnh tk rfl rfl rfl rfl ?_
     refine rn tk 4 rfl ?_
     refine al2 hr (fun s12 => [(0, .hs 2002 0), (1, .fn (.func 38) [] [.ptr 3 0]), (7, .i ((j6.length : Int))), (8, .i s12)]) (fun s12 => [(399999, .sus g0.w.heap.size ds3), (300000, .hold (.hs 2002 0) (T3.getD 0 undef)), (300001, .hold (.fn (.func 38) [] [.ptr 3 0]) (T3.getD 1 undef)), (299999, .sus g0.w.heap.size ds2), (200002, .hold (.ptr 2 0) (T2.getD 2 undef)), (200004, .hold (.ptr 4 0) (T2.getD 4 undef)), (200005, .hold (.ptr 5 0) (T2.getD 5 undef)), (2002, .row 36 true 2 (List.map TRecipient.pc j6)), (5, .cells [.i 0, .i 0]), (4, .cells [.s (([] : Str)), .l TRecipient.pc ([]), .s (([] : Str))]), (3, .cells [.s a1]), (2, .cells [.s a0.From, .l TRecipient.pc a0.To, .s a0.Id])]) (.exit 0) (fun b13 => []) (fun b13 => [(399999, .sus g0.w.heap.size ds3), (300000, .hold (.hs 2002 0) (T3.getD 0 undef)), (300001, .hold (.fn (.func 38) [] [.ptr 3 0]) (T3.getD 1 undef)), (299999, .sus g0.w.heap.size ds2), (200002, .hold (.ptr 2 0) (T2.getD 2 undef)), (200004, .hold (.ptr 4 0) (T2.getD 4 undef)), (200005, .hold (.ptr 5 0) (T2.getD 5 undef)), (2002, .row 36 true 2 (List.map TRecipient.pc j6)), (5, .cells [.i 0, .i 0]), (4, .cells [.s (([] : Str)), .l TRecipient.pc ([]), .s (([] : Str))]), (3, .cells [.s a1]), (2, .cells [.s a0.From, .l TRecipient.pc a0.To, .s a0.Id])]) .ret (fun b14 => [(4, .i b14)]) (fun b14 => [(399999, .sus g0.w.heap.size ds3), (300000, .hold (.hs 2002 0) (T3.getD 0 undef)), (300001, .hold (.fn (.func 38) [] [.ptr 3 0]) (T3.getD 1 undef)), (299999, .sus g0.w.heap.size ds2), (200002, .hold (.ptr 2 0) (T2.getD 2 undef)), (200004, .hold (.ptr 4 0) (T2.getD 4 undef)), (200005, .hold (.ptr 5 0) (T2.getD 5 undef)), (2002, .row 36 true 2 (List.map TRecipient.pc j6)), (5, .cells [.i 0, .i 0]), (4, .cells [.s (([] : Str)), .l TRecipient.pc ([]), .s (([] : Str))]), (3, .cells [.s a1]), (2, .cells [.s a0.From, .l TRecipient.pc a0.To, .s a0.Id])]) rfl rfl (fun s12 x16 hr => ?_) (fun b13 hr => ?_) (fun b14 hr => ?_)
     ·
      unfold envelope_For_l1 at hr
      refine rn tk 6 rfl ?_
      refine ac 9 hr rfl (fun c17 hr => ?_) (fun c17 hr => ?_)
      ·
       refine rn tk 15 rfl ?_
       obtain ⟨v18, h19, hr⟩ := bind_some hr
       refine wih tk h19 rfl rfl rfl rfl rfl ?_
       obtain ⟨v20, h21, hr⟩ := bind_some hr
       refine wq (ev_hloadN (F := TRecipient.pc) (l := j6) (n := s12) (j := 0) rfl rfl ty_api_Recipient rfl h21 rfl) rfl rfl rfl ?_
       refine il (fn := Try.f38) (args := [.agg [.s v20.Address, .i v20.Notify], .ptr 3 0]) 500000 599999 [(0, .hs 2002 0), (1, .fn (.func 38) [] [.ptr 3 0]), (5, .i s12), (7, .i ((j6.length : Int))), (8, .i s12)] rfl ⟨Try.func38, rfl, by kernel_rfl⟩ rfl rfl rfl fun T5 ds5 => ?_
       refine rn tk 2 rfl ?_
       refine wo (opTo_box (k := 2) 1002 rfl rfl rfl rfl rfl) rfl ?_
       refine rn tk 7 rfl ?_
       obtain ⟨v22, h23, hr⟩ := bind_some hr
       refine cl (envelope_Split_run _ _ h23) rfl rfl ?_
       refine rn tk 18 rfl ?_
       refine ie tk [.bo ((v22.2.1 != a1))] [(0, .hs 2002 0), (1, .fn (.func 38) [] [.ptr 3 0]), (5, .i s12), (7, .i ((j6.length : Int))), (8, .i s12)] [(1002, .cells [.s v20.Address, .i v20.Notify]), (399999, .sus g0.w.heap.size ds3), (300000, .hold (.hs 2002 0) (T3.getD 0 undef)), (300001, .hold (.fn (.func 38) [] [.ptr 3 0]) (T3.getD 1 undef)), (299999, .sus g0.w.heap.size ds2), (200002, .hold (.ptr 2 0) (T2.getD 2 undef)), (200004, .hold (.ptr 4 0) (T2.getD 4 undef)), (200005, .hold (.ptr 5 0) (T2.getD 5 undef)), (2002, .row 36 true 2 (List.map TRecipient.pc j6)), (5, .cells [.i 0, .i 0]), (4, .cells [.s (([] : Str)), .l TRecipient.pc ([]), .s (([] : Str))]), (3, .cells [.s a1]), (2, .cells [.s a0.From, .l TRecipient.pc a0.To, .s a0.Id])] (.inr rfl) rfl rfl rfl rfl (hO ?_)
       refine rn tk 2 rfl ?_
       refine ac 16 hr rfl (fun c24 hr => ?_) (fun c24 hr => ?_)
       ·
        refine rn tk 9 rfl ?_
        cases hr
        exact ato rfl rfl rfl rfl
       ·
        refine rn tk 7 rfl ?_
        cases hr
        exact atc rfl rfl
      ·
       refine rn tk 2 rfl ?_
       cases hr
       exact ato rfl rfl rfl rfl
     ·
      refine rn tk 8 rfl ?_
      refine ie tk [.i ((-1))] [(0, .hs 2002 0), (1, .fn (.func 38) [] [.ptr 3 0])] [(299999, .sus g0.w.heap.size ds2), (200002, .hold (.ptr 2 0) (T2.getD 2 undef)), (200004, .hold (.ptr 4 0) (T2.getD 4 undef)), (200005, .hold (.ptr 5 0) (T2.getD 5 undef)), (2002, .row 36 true 2 (List.map TRecipient.pc j6)), (5, .cells [.i 0, .i 0]), (4, .cells [.s (([] : Str)), .l TRecipient.pc ([]), .s (([] : Str))]), (3, .cells [.s a1]), (2, .cells [.s a0.From, .l TRecipient.pc a0.To, .s a0.Id])] (.inr rfl) rfl rfl rfl rfl ?_
      cases hr
      exact jump3 _ _ rfl rfl
     ·
      refine rn tk 2 rfl ?_
      refine ie tk [.i b14] [(0, .hs 2002 0), (1, .fn (.func 38) [] [.ptr 3 0])] [(299999, .sus g0.w.heap.size ds2), (200002, .hold (.ptr 2 0) (T2.getD 2 undef)), (200004, .hold (.ptr 4 0) (T2.getD 4 undef)), (200005, .hold (.ptr 5 0) (T2.getD 5 undef)), (2002, .row 36 true 2 (List.map TRecipient.pc j6)), (5, .cells [.i 0, .i 0]), (4, .cells [.s (([] : Str)), .l TRecipient.pc ([]), .s (([] : Str))]), (3, .cells [.s a1]), (2, .cells [.s a0.From, .l TRecipient.pc a0.To, .s a0.Id])] (.inr rfl) rfl rfl rfl rfl ?_
      cases hr
      exact jump3 _ _ rfl rfl
    ·
     refine rn tk 10 rfl ?_
     refine ac 12 hr rfl (fun c25 hr => ?_) (fun c25 hr => ?_)
     ·
      refine rn tk 6 rfl ?_
      refine awp_unmu 2002 rfl (hC ?_)
      refine awp_pub (d := 4) (F := TRecipient.pc) (l := j6) rfl rfl (hC ?_)
      refine rn tk 2 rfl ?_
      refine ie tk [.l TRecipient.pc j6] [(2, .ptr 2 0), (4, .ptr 4 0), (5, .ptr 5 0)] [(2002, .row 36 false 2 (List.map TRecipient.pc j6)), (5, .cells [.i 0, .i 0]), (4, .cells [.s (([] : Str)), .l TRecipient.pc ([]), .s (([] : Str))]), (3, .cells [.s a1]), (2, .cells [.s a0.From, .l TRecipient.pc a0.To, .s a0.Id])] (.inr rfl) rfl rfl rfl rfl ?_
      cases hr
      exact jump2 _ _ rfl rfl
     ·
      refine rn tk 11 rfl ?_
      refine al1 hr (fun s26 => [(0, .hs 2002 0), (1, .fn (.func 38) [] [.ptr 3 0]), (5, .i s26.1), (6, .i s26.2.1)]) (fun s26 => [(299999, .sus g0.w.heap.size ds2), (200002, .hold (.ptr 2 0) (T2.getD 2 undef)), (200004, .hold (.ptr 4 0) (T2.getD 4 undef)), (200005, .hold (.ptr 5 0) (T2.getD 5 undef)), (2002, .row 36 true 2 (List.map TRecipient.pc s26.2.2)), (5, .cells [.i 0, .i 0]), (4, .cells [.s (([] : Str)), .l TRecipient.pc ([]), .s (([] : Str))]), (3, .cells [.s a1]), (2, .cells [.s a0.From, .l TRecipient.pc a0.To, .s a0.Id])]) (.exit 0) (fun b27 => [(0, .hs 2002 0), (5, .i b27.1)]) (fun b27 => [(299999, .sus g0.w.heap.size ds2), (200002, .hold (.ptr 2 0) (T2.getD 2 undef)), (200004, .hold (.ptr 4 0) (T2.getD 4 undef)), (200005, .hold (.ptr 5 0) (T2.getD 5 undef)), (2002, .row 36 true 2 (List.map TRecipient.pc b27.2)), (5, .cells [.i 0, .i 0]), (4, .cells [.s (([] : Str)), .l TRecipient.pc ([]), .s (([] : Str))]), (2, .cells [.s a0.From, .l TRecipient.pc a0.To, .s a0.Id])]) rfl rfl (fun s26 x28 hr => ?_) (fun b27 hr => ?_)
      ·
       unfold envelope_For_l2 at hr
       refine rn tk 5 rfl ?_
       refine wnh tk rfl rfl rfl rfl ?_
       refine rn tk 3 rfl ?_
       refine ac 19 hr rfl (fun c29 hr => ?_) (fun c29 hr => ?_)
       ·
        refine rn tk 2 rfl ?_
        refine jb hr (fun j30 => [(0, .hs 2002 0), (1, .fn (.func 38) [] [.ptr 3 0]), (5, .i j30.1), (6, .i s26.2.1)]) (fun j30 => [(299999, .sus g0.w.heap.size ds2), (200002, .hold (.ptr 2 0) (T2.getD 2 undef)), (200004, .hold (.ptr 4 0) (T2.getD 4 undef)), (200005, .hold (.ptr 5 0) (T2.getD 5 undef)), (2002, .row 36 true 2 (List.map TRecipient.pc j30.2)), (5, .cells [.i 0, .i 0]), (4, .cells [.s (([] : Str)), .l TRecipient.pc ([]), .s (([] : Str))]), (3, .cells [.s a1]), (2, .cells [.s a0.From, .l TRecipient.pc a0.To, .s a0.Id])]) (fun j30 hr => ?_) (fun j30 hr => ?_)
        ·
         refine rn tk 5 rfl ?_
         obtain ⟨v31, h32, hr⟩ := bind_some hr
         refine wih tk h32 rfl rfl rfl rfl rfl ?_
         obtain ⟨v33, h34, hr⟩ := bind_some hr
         refine wq (ev_hloadN (F := TRecipient.pc) (l := s26.2.2) (n := s26.2.1) (j := 0) rfl rfl ty_api_Recipient rfl h34 rfl) rfl rfl rfl ?_
         refine rn tk 8 rfl ?_
         refine il (fn := Try.f38) (args := [.agg [.s v33.Address, .i v33.Notify], .ptr 3 0]) 1100000 1199999 [(0, .hs 2002 0), (1, .fn (.func 38) [] [.ptr 3 0]), (5, .i s26.1), (6, .i s26.2.1), (7, .ptr 7 0)] rfl ⟨Try.func38, rfl, by kernel_rfl⟩ rfl rfl rfl fun T11 ds11 => ?_
         refine rn tk 2 rfl ?_
         refine wo (opTo_box (k := 2) 1002 rfl rfl rfl rfl rfl) rfl ?_
         refine rn tk 7 rfl ?_
         obtain ⟨v35, h36, hr⟩ := bind_some hr
         refine cl (envelope_Split_run _ _ h36) rfl rfl ?_
         refine rn tk 18 rfl ?_
         refine ie tk [.bo ((v35.2.1 != a1))] [(0, .hs 2002 0), (1, .fn (.func 38) [] [.ptr 3 0]), (5, .i s26.1), (6, .i s26.2.1), (7, .ptr 7 0)] [(1002, .cells [.s v33.Address, .i v33.Notify]), (7, .cells [.s v33.Address, .i v33.Notify]), (299999, .sus g0.w.heap.size ds2), (200002, .hold (.ptr 2 0) (T2.getD 2 undef)), (200004, .hold (.ptr 4 0) (T2.getD 4 undef)), (200005, .hold (.ptr 5 0) (T2.getD 5 undef)), (2002, .row 36 true 2 (List.map TRecipient.pc s26.2.2)), (5, .cells [.i 0, .i 0]), (4, .cells [.s (([] : Str)), .l TRecipient.pc ([]), .s (([] : Str))]), (3, .cells [.s a1]), (2, .cells [.s a0.From, .l TRecipient.pc a0.To, .s a0.Id])] (.inr rfl) rfl rfl rfl rfl (hO ?_)
         refine rn tk 3 rfl ?_
         refine ac 29 hr rfl (fun c37 hr => ?_) (fun c37 hr => ?_)
         ·
          refine rn tk 5 rfl ?_
          obtain ⟨v38, h39, hr⟩ := bind_some hr
          refine wih tk h39 rfl rfl rfl rfl rfl ?_
          obtain ⟨v40, h41, hr⟩ := bind_some hr
          refine wo (opTo_hstore (F := TRecipient.pc) (l := s26.2.2) (n := s26.1) (j := 0) (v := v40) (v' := v33) (pcs := [pS v33.Address, pI v33.Notify]) rfl rfl rfl ty_api_Recipient rfl h41 rfl rfl) rfl ?_
          refine rn tk 8 rfl ?_
          cases hr
          exact jn _ rfl rfl rfl
         ·
          refine rn tk 2 rfl ?_
          cases hr
          exact jn _ rfl rfl rfl
        ·
         refine rn tk 5 rfl ?_
         cases hr
         exact atc rfl rfl
       ·
        refine rn tk 2 rfl ?_
        cases hr
        exact ato rfl rfl rfl rfl
      ·
       refine rn tk 6 rfl ?_
       obtain ⟨v42, h43, hr⟩ := bind_some hr
       refine wq (ev_hsub (F := TRecipient.pc) (l := b27.2) (p := b27.1) rfl rfl rfl ty_s_api_Recipient ty_api_Recipient h43) rfl rfl rfl ?_
       refine wo (opTo_clear (F := TRecipient.pc) (l := b27.2) (z := ((TRecipient.mk (([] : Str)) 0))) rfl rfl ty_s_api_Recipient ty_api_Recipient rfl rfl) rfl ?_
       refine rn tk 6 rfl ?_
       refine awpl_unmu 2002 rfl (hO ?_)
       refine awpl_pub (d := 39) (F := TRecipient.pc) (l := ((clr0 b27.2 (Int.toNat b27.1) ((TRecipient.mk (([] : Str)) 0))))) rfl rfl (hO ?_)
       obtain ⟨v44, h45, hr⟩ := bind_some hr
       refine wlH tk h45 rfl rfl rfl (fun _ => rfl) rfl ?_
       refine rn tk 4 rfl ?_
       refine ie tk [.l TRecipient.pc v44] [(2, .ptr 2 0), (4, .ptr 4 0), (5, .ptr 5 0)] [(2002, .row 36 false 2 (List.map TRecipient.pc ((clr0 b27.2 (Int.toNat b27.1) ((TRecipient.mk (([] : Str)) 0)))))), (5, .cells [.i 0, .i 0]), (4, .cells [.s (([] : Str)), .l TRecipient.pc ([]), .s (([] : Str))]), (2, .cells [.s a0.From, .l TRecipient.pc a0.To, .s a0.Id])] (.inr rfl) rfl rfl rfl rfl ?_
       cases hr
       exact jump2 _ _ rfl rfl
   ·
    refine rn tk 9 rfl ?_
    refine wn tk rfl rfl rfl ?_
    refine rn tk 3 rfl ?_
    refine ac 22 hr rfl (fun c46 hr => ?_) (fun c46 hr => ?_)
    ·
     refine rn tk 3 rfl ?_
     obtain ⟨v47, h48, hr⟩ := bind_some hr
     refine cl (basic_Fault_run _ _ _ h48) rfl rfl ?_
     refine rn tk 6 rfl ?_
     cases hr
     exact kr tk (.inr rfl) rfl rfl
    ·
     refine rn tk 3 rfl ?_
     obtain ⟨v49, h50, hr⟩ := bind_some hr
     refine dr 2 [(26, .agg [.i v49.Code, .i v49.Index]), (25, .agg [.s a0.From, .l TRecipient.pc j10, .s a0.Id])] mixed (by kernel_rfl) rfl rfl (pq tk rfl (.plain rfl) (.run (.plain rfl) (opG_call (basic_None_run  v49 h50) rfl) .nil)) rfl ?_
     refine rn tk 5 rfl ?_
     cases hr
     exact kr tk (.inr rfl) rfl rfl
end Go.Proofs.Ytfhfjckjmacekaa

/- A function of the program computes what its Lean function does. Written by program. -/
namespace Go.Proofs.Ytfhfjckjmacekaa
open Go.RowKit
set_option maxRecDepth 100000
set_option maxHeartbeats 40000000
set_option linter.unusedVariables false
theorem envelope_Merge_run (a0 : List TRecipient) (r : (List TRecipient) × TFault) (hr : envelope_Merge a0 = some r) : Run Try.prog 18 [.l TRecipient.pc a0] (.tup [.l TRecipient.pc r.1, .agg [.i r.2.Code, .i r.2.Index]]) := by
 unfold envelope_Merge at hr
 refine rf (fn := Try.f18) ⟨Try.func18, rfl, by kernel_rfl⟩ rfl (fun _ => rfl) fun g0 hg => ?_
 refine rn tk 10 rfl ?_
 refine wn tk rfl rfl rfl ?_
 refine rn tk 3 rfl ?_
 refine ac 12 hr rfl (fun c1 hr => ?_) (fun c1 hr => ?_)
 ·
  refine rn tk 2 rfl ?_
  obtain ⟨v2, h3, hr⟩ := bind_some hr
  refine cl (basic_Fault_run _ _ _ h3) rfl rfl ?_
  refine rn tk 6 rfl ?_
  cases hr
  exact kr tk (.inr rfl) rfl rfl
 ·
  refine rn tk 4 rfl ?_
  refine wo (opTo_makeMap (k0 := 14) 1014 false rfl rfl rfl) rfl ?_
  refine rn tk 6 rfl ?_
  refine awpl_adoptM 1005 (d := 5) 36 2 rfl rfl rfl (hO ?_)
  refine rn tk 6 rfl ?_
  refine wn tk rfl rfl rfl ?_
  refine rn tk 4 rfl ?_
  refine al2 hr (fun s4 => [(3, .ptr 3 0), (4, .mp 1014), (5, .hs 1005 0), (15, .l TRecipient.pc a0), (16, .i ((a0.length : Int))), (17, .i s4.1)]) (fun s4 => [(1005, .row 36 true 2 (List.map TRecipient.pc s4.2.1)), (1014, .mapo false (menc keyS cI s4.2.2)), (3, .cells [.i 0, .i 0])]) (.exit 0) (fun b5 => [(3, .ptr 3 0), (5, .hs 1005 0)]) (fun b5 => [(1005, .row 36 true 2 (List.map TRecipient.pc b5)), (3, .cells [.i 0, .i 0])]) .ret (fun b6 => [(2, .l TRecipient.pc b6.1), (3, .ptr 3 0)]) (fun b6 => [(3, .cells [.i b6.2.Code, .i b6.2.Index])]) rfl rfl (fun s4 x8 hr => ?_) (fun b5 hr => ?_) (fun b6 hr => ?_)
  ·
   unfold envelope_Merge_l1 at hr
   refine rn tk 6 rfl ?_
   refine ac 18 hr rfl (fun c9 hr => ?_) (fun c9 hr => ?_)
   ·
    refine rn tk 2 rfl ?_
    refine jk (fun j10 => [(3, .ptr 3 0), (4, .mp 1014), (5, .hs 1005 0), (15, .l TRecipient.pc a0), (16, .i ((a0.length : Int))), (17, .i s4.1)]) (fun j10 => [(1005, .row 36 true 2 (List.map TRecipient.pc j10.1)), (1014, .mapo false (menc keyS cI j10.2)), (3, .cells [.i 0, .i 0])]) (fun j10 => envelope_Merge_k2 s4 j10 = some x8) ?_ ?_
    ·
     refine rn tk 4 rfl ?_
     obtain ⟨v11, h12, hr⟩ := bind_some hr
     refine wi tk h12 rfl rfl rfl rfl rfl ?_
     refine rn tk 11 rfl ?_
     obtain ⟨v13, h14, hr⟩ := bind_some hr
     refine cl (envelope_Address_run _ _ h14) rfl rfl ?_
     refine rn tk 3 rfl ?_
     refine ac 25 hr rfl (fun c15 hr => ?_) (fun c15 hr => ?_)
     ·
      refine rn tk 3 rfl ?_
      obtain ⟨v16, h17, hr⟩ := bind_some hr
      refine cl (basic_Fault_run _ _ _ h17) rfl rfl ?_
      refine rn tk 8 rfl ?_
      cases hr
      exact ato rfl rfl rfl rfl
     ·
      refine rn tk 7 rfl ?_
      obtain ⟨v18, h19, hr⟩ := bind_some hr
      refine cl (envelope_Notify_run _ _ h19) rfl rfl ?_
      refine rn tk 3 rfl ?_
      refine ac 31 hr rfl (fun c20 hr => ?_) (fun c20 hr => ?_)
      ·
       refine rn tk 3 rfl ?_
       obtain ⟨v21, h22, hr⟩ := bind_some hr
       refine cl (basic_Fault_run _ _ _ h22) rfl rfl ?_
       refine rn tk 8 rfl ?_
       cases hr
       exact ato rfl rfl rfl rfl
      ·
       refine rn tk 7 rfl ?_
       refine wq (ev_lookupOk (KK := keyS) (F := cI) (es := s4.2.2) (k := v11.Address) (z := 0) rfl rfl rfl ty_map_string_int.u ty_string.u ty_int rfl) rfl rfl rfl ?_
       refine rn tk 13 rfl ?_
       refine ac 41 hr rfl (fun c23 hr => ?_) (fun c23 hr => ?_)
       ·
        refine rn tk 1 rfl ?_
        obtain ⟨v24, h25, hr⟩ := bind_some hr
        obtain ⟨v26, h27, hr⟩ := bind_some hr
        refine dr 7 [(48, .i v11.Notify), (47, .ptr 7 1), (46, .i v26.Notify), (45, .hp 1005 (Int.toNat (((mget s4.2.2 v11.Address).getD 0))) 1), (44, .hp 1005 (Int.toNat (((mget s4.2.2 v11.Address).getD 0))) 0), (43, .i (((mget s4.2.2 v11.Address).getD 0))), (42, .hs 1005 0)] mixed (by kernel_rfl) rfl rfl (pq tk rfl (.plain rfl) (pq tk rfl (.plain rfl) (.run (.plain rfl) (opG_q (ev_hidx (F := TRecipient.pc) (l := s4.2.1) (n := (((mget s4.2.2 v11.Address).getD 0))) rfl rfl rfl ty_s_api_Recipient ty_api_Recipient h25)) (pq tk rfl (.plain rfl) (.run (.plain rfl) (opG_q (ev_hload (F := TRecipient.pc) (l := s4.2.1) (n := (((mget s4.2.2 v11.Address).getD 0))) (j := 1) rfl rfl ty_int rfl h27 rfl)) (pq tk rfl (.plain rfl) (pq tk rfl (.plain rfl) .nil))))))) rfl ?_
        refine wq (ev_ior rfl rfl) rfl rfl rfl ?_
        obtain ⟨v28, h29, hr⟩ := bind_some hr
        refine wih tk h29 rfl rfl rfl rfl rfl ?_
        refine rn tk 1 rfl ?_
        obtain ⟨v30, h31, hr⟩ := bind_some hr
        refine wo (opTo_hstore (F := TRecipient.pc) (l := s4.2.1) (n := (((mget s4.2.2 v11.Address).getD 0))) (j := 1) (v := v30) (v' := ((TRecipient.mk v30.Address ((iOr v26.Notify v11.Notify))))) (pcs := [pI ((iOr v26.Notify v11.Notify))]) rfl rfl rfl ty_int rfl h31 rfl rfl) rfl ?_
        refine rn tk 5 rfl ?_
        exact jn (((List.set s4.2.1 (Int.toNat (((mget s4.2.2 v11.Address).getD 0))) ((TRecipient.mk v30.Address ((iOr v26.Notify v11.Notify))))), s4.2.2)) hr rfl rfl
       ·
        refine rn tk 8 rfl ?_
        refine wnh tk rfl rfl rfl rfl ?_
        refine wo (opTo_mapUpdate (KK := keyS) (F := cI) (es := s4.2.2) (k := v11.Address) (v := ((s4.2.1.length : Int))) rfl rfl rfl rfl rfl ty_map_string_int.u ty_string.u) rfl ?_
        refine rn tk 5 rfl ?_
        refine wz TRecipient.pc ([v11] : List TRecipient) tk rfl rfl (fun _ => rfl) rfl rfl rfl ?_
        obtain ⟨v32, h33, hr⟩ := bind_some hr
        refine wa tk h33 rfl rfl rfl rfl (fun _ => rfl) rfl rfl ?_
        refine rn tk 3 rfl ?_
        exact jn ((v32, (mput s4.2.2 v11.Address ((s4.2.1.length : Int))))) hr rfl rfl
    ·
     intro j10 hr
     unfold envelope_Merge_k2 at hr
     refine rn tk 4 rfl ?_
     cases hr
     exact atc rfl rfl
   ·
    refine rn tk 2 rfl ?_
    cases hr
    exact ato rfl rfl rfl rfl
  ·
   refine rn tk 5 rfl ?_
   obtain ⟨v34, h35, hr⟩ := bind_some hr
   refine cl (basic_None_run _ h35) rfl rfl ?_
   refine rn tk 4 rfl ?_
   refine awp_unmu 1005 rfl (hC ?_)
   refine awp_pub (d := 2) (F := TRecipient.pc) (l := b5) rfl rfl (hC ?_)
   refine rn tk 1 rfl ?_
   cases hr
   exact kr tk (.inr rfl) rfl rfl
  ·
   refine rn tk 2 rfl ?_
   cases hr
   exact kr tk (.inr rfl) rfl rfl
end Go.Proofs.Ytfhfjckjmacekaa

/- A function of the program computes what its Lean function does. Written by program. -/
namespace Go.Proofs.Ytfhfjckjmacekaa
open Go.RowKit
set_option maxRecDepth 100000
set_option maxHeartbeats 40000000
set_option linter.unusedVariables false
theorem L_envelopes_run  (r : Bool) (hr : L_envelopes = some r) : Run Try.prog 12 [] (.bo r) := by
 unfold L_envelopes at hr
 refine rf (fn := Try.f12) ⟨Try.func12, rfl, by kernel_rfl⟩ rfl (fun _ => rfl) fun g0 hg => ?_
 refine rn tk 9 rfl ?_
 refine wz TRecipient.pc ([(TRecipient.mk (([97, 64, 120] : Str)) 0), (TRecipient.mk (([98, 64, 121] : Str)) 1)] : List TRecipient) tk rfl rfl (fun _ => rfl) rfl rfl rfl ?_
 refine rn tk 8 rfl ?_
 obtain ⟨v1, h2, hr⟩ := bind_some hr
 refine cl (envelope_Domains_run _ _ h2) rfl rfl ?_
 refine rn tk 11 rfl ?_
 obtain ⟨v3, h4, hr⟩ := bind_some hr
 refine cl (envelope_For_run _ _ _ h4) rfl rfl ?_
 refine rn tk 13 rfl ?_
 refine wz TRecipient.pc ([(TRecipient.mk (([97, 64, 98] : Str)) 1), (TRecipient.mk (([97, 64, 98] : Str)) 4)] : List TRecipient) tk rfl rfl (fun _ => rfl) rfl rfl rfl ?_
 obtain ⟨v5, h6, hr⟩ := bind_some hr
 refine cl (envelope_Merge_run _ _ h6) rfl rfl ?_
 refine rn tk 8 rfl ?_
 refine jb hr (fun j7 => [(0, .bo j7)]) (fun j7 => []) (fun j7 hr => ?_) (fun j7 hr => ?_)
 ·
  refine rn tk 5 rfl ?_
  refine bs 32 hr rfl (fun c8 hr => ?_) (fun c8 hr => ?_)
  ·
   refine rn tk 5 rfl ?_
   refine bs 37 hr rfl (fun c9 hr => ?_) (fun c9 hr => ?_)
   ·
    refine rn tk 5 rfl ?_
    refine bs 42 hr rfl (fun c10 hr => ?_) (fun c10 hr => ?_)
    ·
     refine rn tk 1 rfl ?_
     refine ug rfl rfl rfl ?_
     refine wz cS ([([120] : Str), ([121] : Str)] : List Str) tk rfl rfl (fun _ => rfl) rfl rfl rfl ?_
     obtain ⟨v11, h12, hr⟩ := bind_some hr
     refine ug rfl rfl rfl ?_
     refine cl (R_Strings_run _ _ _ h12) rfl rfl ?_
     refine rn tk 2 rfl ?_
     refine bs 47 hr rfl (fun c13 hr => ?_) (fun c13 hr => ?_)
     ·
      refine rn tk 3 rfl ?_
      refine ug rfl rfl rfl ?_
      refine wz TRecipient.pc ([(TRecipient.mk (([98, 64, 121] : Str)) 1)] : List TRecipient) tk rfl rfl (fun _ => rfl) rfl rfl rfl ?_
      obtain ⟨v14, h15, hr⟩ := bind_some hr
      refine ug rfl rfl rfl ?_
      refine cl (R_SameRecipients_run _ _ _ h15) rfl rfl ?_
      refine rn tk 2 rfl ?_
      refine bs 54 hr rfl (fun c16 hr => ?_) (fun c16 hr => ?_)
      ·
       refine rn tk 2 rfl ?_
       refine ug rfl rfl rfl ?_
       refine wz TRecipient.pc ([(TRecipient.mk (([97, 64, 98] : Str)) 5)] : List TRecipient) tk rfl rfl (fun _ => rfl) rfl rfl rfl ?_
       obtain ⟨v17, h18, hr⟩ := bind_some hr
       refine ug rfl rfl rfl ?_
       refine cl (R_SameRecipients_run _ _ _ h18) rfl rfl ?_
       refine rn tk 2 rfl ?_
       refine bs 60 hr rfl (fun c19 hr => ?_) (fun c19 hr => ?_)
       ·
        refine rn tk 1 rfl ?_
        obtain ⟨v20, h21, hr⟩ := bind_some hr
        refine ug rfl rfl rfl ?_
        refine cl (envelope_Validate_run _ _ h21) rfl rfl ?_
        obtain ⟨v22, h23, hr⟩ := bind_some hr
        refine ug rfl rfl rfl ?_
        refine cl (R_At_run _ _ _ h23) rfl rfl ?_
        refine ug rfl rfl rfl ?_
        refine wq (ev_structeq rfl rfl ty_api_Fault cmp_api_Fault (.int rfl (by decide) ty_int (.int rfl (by decide) ty_int .nil))) rfl rfl rfl ?_
        refine rn tk 3 rfl ?_
        cases hr
        exact jn _ rfl rfl rfl
       ·
        refine rn tk 7 rfl ?_
        cases hr
        exact jn _ rfl rfl rfl
      ·
       refine rn tk 13 rfl ?_
       cases hr
       exact jn _ rfl rfl rfl
     ·
      refine rn tk 20 rfl ?_
      cases hr
      exact jn _ rfl rfl rfl
    ·
     refine rn tk 25 rfl ?_
     cases hr
     exact jn _ rfl rfl rfl
   ·
    refine rn tk 30 rfl ?_
    cases hr
    exact jn _ rfl rfl rfl
  ·
   refine rn tk 35 rfl ?_
   cases hr
   exact jn _ rfl rfl rfl
 ·
  refine rn tk 1 rfl ?_
  cases hr
  exact kr tk (.inr rfl) rfl rfl
end Go.Proofs.Ytfhfjckjmacekaa

/- A function of the program computes what its Lean function does. Written by program. -/
namespace Go.Proofs.Ytfhfjckjmacekaa
open Go.RowKit
set_option maxRecDepth 100000
set_option maxHeartbeats 40000000
set_option linter.unusedVariables false
theorem R_sign_run (a0 : Str) (r : Int) (hr : R_sign a0 = some r) : Run Try.prog 40 [.s a0] (.i r) := by
 unfold R_sign at hr
 refine rf (fn := Try.f40) ⟨Try.func40, rfl, by kernel_rfl⟩ rfl (fun _ => rfl) fun g0 hg => ?_
 refine rn tk 12 rfl ?_
 refine al2 hr (fun s1 => [(0, .s a0), (3, .i s1)]) (fun s1 => []) (.exit 0) (fun b2 => [(0, .s a0)]) (fun b2 => []) .ret (fun b3 => [(2, .i b3)]) (fun b3 => []) rfl rfl (fun s1 x5 hr => ?_) (fun b2 hr => ?_) (fun b3 hr => ?_)
 ·
  unfold R_sign_l1 at hr
  refine rn tk 9 rfl ?_
  refine ac 7 hr rfl (fun c6 hr => ?_) (fun c6 hr => ?_)
  ·
   refine rn tk 8 rfl ?_
   obtain ⟨v7, h8, hr⟩ := bind_some hr
   refine ws tk h8 rfl rfl rfl rfl ?_
   refine rn tk 3 rfl ?_
   refine ac 13 hr rfl (fun c9 hr => ?_) (fun c9 hr => ?_)
   ·
    refine rn tk 9 rfl ?_
    cases hr
    exact ato rfl rfl rfl rfl
   ·
    refine rn tk 8 rfl ?_
    cases hr
    exact atc rfl rfl
  ·
   refine rn tk 2 rfl ?_
   cases hr
   exact ato rfl rfl rfl rfl
 ·
  refine rn tk 10 rfl ?_
  cases hr
  exact kr tk (.inr rfl) rfl rfl
 ·
  refine rn tk 2 rfl ?_
  cases hr
  exact kr tk (.inr rfl) rfl rfl
end Go.Proofs.Ytfhfjckjmacekaa

/- A function of the program computes what its Lean function does. Written by program. -/
namespace Go.Proofs.Ytfhfjckjmacekaa
open Go.RowKit
set_option maxRecDepth 100000
set_option maxHeartbeats 40000000
set_option linter.unusedVariables false
theorem R_DomainOf_run (a0 : Str) (r : Str) (hr : R_DomainOf a0 = some r) : Run Try.prog 13 [.s a0] (.s r) := by
 unfold R_DomainOf at hr
 refine rf (fn := Try.f13) ⟨Try.func13, rfl, by kernel_rfl⟩ rfl (fun _ => rfl) fun g0 hg => ?_
 refine rn tk 8 rfl ?_
 obtain ⟨v1, h2, hr⟩ := bind_some hr
 refine cl (R_sign_run _ _ h2) rfl rfl ?_
 refine rn tk 12 rfl ?_
 refine ac 9 hr rfl (fun c3 hr => ?_) (fun c3 hr => ?_)
 ·
  refine rn tk 7 rfl ?_
  cases hr
  exact kr tk (.inr rfl) rfl rfl
 ·
  refine rn tk 7 rfl ?_
  obtain ⟨v4, h5, hr⟩ := bind_some hr
  refine wscL tk h5 rfl rfl rfl rfl ?_
  refine rn tk 4 rfl ?_
  cases hr
  exact kr tk (.inr rfl) rfl rfl
end Go.Proofs.Ytfhfjckjmacekaa

/- A function of the program computes what its Lean function does. Written by program. -/
namespace Go.Proofs.Ytfhfjckjmacekaa
open Go.RowKit
set_option maxRecDepth 100000
set_option maxHeartbeats 40000000
set_option linter.unusedVariables false
theorem R_In_run (a0 : Int) (a1 : Int) (a2 : Int) (r : Bool) (hr : R_In a0 a1 a2 = some r) : Run Try.prog 20 [.i a0, .i a1, .i a2] (.bo r) := by
 unfold R_In at hr
 refine rf (fn := Try.f20) ⟨Try.func20, rfl, by kernel_rfl⟩ rfl (fun _ => rfl) fun g0 hg => ?_
 refine rn tk 5 rfl ?_
 refine jb hr (fun j1 => [(6, .bo j1)]) (fun j1 => []) (fun j1 hr => ?_) (fun j1 hr => ?_)
 ·
  refine rn tk 5 rfl ?_
  refine bs 10 hr rfl (fun c2 hr => ?_) (fun c2 hr => ?_)
  ·
   refine rn tk 6 rfl ?_
   cases hr
   exact jn _ rfl rfl rfl
  ·
   refine rn tk 6 rfl ?_
   cases hr
   exact jn _ rfl rfl rfl
 ·
  refine rn tk 1 rfl ?_
  cases hr
  exact kr tk (.inr rfl) rfl rfl
end Go.Proofs.Ytfhfjckjmacekaa

/- A function of the program computes what its Lean function does. Written by program. -/
namespace Go.Proofs.Ytfhfjckjmacekaa
open Go.RowKit
set_option maxRecDepth 100000
set_option maxHeartbeats 40000000
set_option linter.unusedVariables false
theorem R_DomainOk_run (a0 : Str) (r : Bool) (hr : R_DomainOk a0 = some r) : Run Try.prog 44 [.s a0] (.bo r) := by
 unfold R_DomainOk at hr
 refine rf (fn := Try.f44) ⟨Try.func44, rfl, by kernel_rfl⟩ rfl (fun _ => rfl) fun g0 hg => ?_
 refine rn tk 12 rfl ?_
 refine al2 hr (fun s1 => [(0, .s a0), (3, .i s1)]) (fun s1 => []) (.exit 0) (fun b2 => [(0, .s a0)]) (fun b2 => []) .ret (fun b3 => [(2, .bo b3)]) (fun b3 => []) rfl rfl (fun s1 x5 hr => ?_) (fun b2 hr => ?_) (fun b3 hr => ?_)
 ·
  unfold R_DomainOk_l1 at hr
  refine rn tk 9 rfl ?_
  refine ac 8 hr rfl (fun c6 hr => ?_) (fun c6 hr => ?_)
  ·
   refine rn tk 8 rfl ?_
   obtain ⟨v7, h8, hr⟩ := bind_some hr
   refine ws tk h8 rfl rfl rfl rfl ?_
   refine wu tk rfl rfl rfl ?_
   refine rn tk 4 rfl ?_
   refine jb hr (fun j9 => [(0, .s a0), (3, .i s1), (4, .i ((v7.toNat : Int))), (36, .bo j9)]) (fun j9 => []) (fun j9 hr => ?_) (fun j9 hr => ?_)
   ·
    refine rn tk 3 rfl ?_
    obtain ⟨v10, h11, hr⟩ := bind_some hr
    refine ws tk h11 rfl rfl rfl rfl ?_
    refine rn tk 2 rfl ?_
    refine bs 19 hr rfl (fun c12 hr => ?_) (fun c12 hr => ?_)
    ·
     refine rn tk 3 rfl ?_
     refine bs 22 hr rfl (fun c13 hr => ?_) (fun c13 hr => ?_)
     ·
      refine rn tk 15 rfl ?_
      cases hr
      exact jn _ rfl rfl rfl
     ·
      refine rn tk 7 rfl ?_
      refine bs 29 hr rfl (fun c14 hr => ?_) (fun c14 hr => ?_)
      ·
       refine rn tk 8 rfl ?_
       cases hr
       exact jn _ rfl rfl rfl
      ·
       refine rn tk 3 rfl ?_
       obtain ⟨v15, h16, hr⟩ := bind_some hr
       refine ug rfl rfl rfl ?_
       refine ws tk h16 rfl rfl rfl rfl ?_
       refine rn tk 4 rfl ?_
       cases hr
       exact jn _ rfl rfl rfl
    ·
     refine rn tk 18 rfl ?_
     cases hr
     exact jn _ rfl rfl rfl
   ·
    refine ac 36 hr rfl (fun c17 hr => ?_) (fun c17 hr => ?_)
    ·
     refine rn tk 9 rfl ?_
     cases hr
     exact ato rfl rfl rfl rfl
    ·
     refine rn tk 2 rfl ?_
     refine jb hr (fun j18 => [(0, .s a0), (3, .i s1), (56, .bo j18)]) (fun j18 => []) (fun j18 hr => ?_) (fun j18 hr => ?_)
     ·
      refine rn tk 2 rfl ?_
      obtain ⟨v19, h20, hr⟩ := bind_some hr
      refine cl (R_In_run _ _ _ _ h20) rfl rfl ?_
      refine rn tk 2 rfl ?_
      refine bs 40 hr rfl (fun c21 hr => ?_) (fun c21 hr => ?_)
      ·
       refine rn tk 1 rfl ?_
       obtain ⟨v22, h23, hr⟩ := bind_some hr
       refine ug rfl rfl rfl ?_
       refine cl (R_In_run _ _ _ _ h23) rfl rfl ?_
       refine rn tk 3 rfl ?_
       refine bs 45 hr rfl (fun c24 hr => ?_) (fun c24 hr => ?_)
       ·
        refine rn tk 2 rfl ?_
        obtain ⟨v25, h26, hr⟩ := bind_some hr
        refine ug rfl rfl rfl ?_
        refine ws tk h26 rfl rfl rfl rfl ?_
        refine rn tk 3 rfl ?_
        refine bs 51 hr rfl (fun c27 hr => ?_) (fun c27 hr => ?_)
        ·
         refine rn tk 2 rfl ?_
         obtain ⟨v28, h29, hr⟩ := bind_some hr
         refine ug rfl rfl rfl ?_
         refine ws tk h29 rfl rfl rfl rfl ?_
         refine rn tk 3 rfl ?_
         cases hr
         exact jn _ rfl rfl rfl
        ·
         refine rn tk 6 rfl ?_
         cases hr
         exact jn _ rfl rfl rfl
       ·
        refine rn tk 12 rfl ?_
        cases hr
        exact jn _ rfl rfl rfl
      ·
       refine rn tk 17 rfl ?_
       cases hr
       exact jn _ rfl rfl rfl
     ·
      refine ac 56 hr rfl (fun c30 hr => ?_) (fun c30 hr => ?_)
      ·
       refine rn tk 8 rfl ?_
       cases hr
       exact ato rfl rfl rfl rfl
      ·
       refine rn tk 8 rfl ?_
       cases hr
       exact atc rfl rfl
  ·
   refine rn tk 2 rfl ?_
   cases hr
   exact ato rfl rfl rfl rfl
 ·
  refine rn tk 6 rfl ?_
  obtain ⟨v31, h32, hr⟩ := bind_some hr
  refine cl (R_In_run _ _ _ _ h32) rfl rfl ?_
  refine rn tk 4 rfl ?_
  cases hr
  exact kr tk (.inr rfl) rfl rfl
 ·
  refine rn tk 2 rfl ?_
  cases hr
  exact kr tk (.inr rfl) rfl rfl
end Go.Proofs.Ytfhfjckjmacekaa

/- A function of the program computes what its Lean function does. Written by program. -/
namespace Go.Proofs.Ytfhfjckjmacekaa
open Go.RowKit
set_option maxRecDepth 100000
set_option maxHeartbeats 40000000
set_option linter.unusedVariables false
theorem R_letterOrDigit_run (a0 : UInt8) (r : Bool) (hr : R_letterOrDigit a0 = some r) : Run Try.prog 43 [.u8 a0] (.bo r) := by
 unfold R_letterOrDigit at hr
 refine rf (fn := Try.f43) ⟨Try.func43, rfl, by kernel_rfl⟩ rfl (fun _ => rfl) fun g0 hg => ?_
 refine rn tk 8 rfl ?_
 refine wu tk rfl rfl rfl ?_
 refine rn tk 3 rfl ?_
 refine jb hr (fun j1 => [(2, .bo j1)]) (fun j1 => []) (fun j1 hr => ?_) (fun j1 hr => ?_)
 ·
  refine rn tk 2 rfl ?_
  obtain ⟨v2, h3, hr⟩ := bind_some hr
  refine cl (R_In_run _ _ _ _ h3) rfl rfl ?_
  refine rn tk 1 rfl ?_
  refine bs 8 hr rfl (fun c4 hr => ?_) (fun c4 hr => ?_)
  ·
   refine rn tk 9 rfl ?_
   cases hr
   exact jn _ rfl rfl rfl
  ·
   refine rn tk 1 rfl ?_
   obtain ⟨v5, h6, hr⟩ := bind_some hr
   refine ug rfl rfl rfl ?_
   refine cl (R_In_run _ _ _ _ h6) rfl rfl ?_
   refine rn tk 2 rfl ?_
   refine bs 12 hr rfl (fun c7 hr => ?_) (fun c7 hr => ?_)
   ·
    refine rn tk 5 rfl ?_
    cases hr
    exact jn _ rfl rfl rfl
   ·
    refine rn tk 1 rfl ?_
    obtain ⟨v8, h9, hr⟩ := bind_some hr
    refine ug rfl rfl rfl ?_
    refine cl (R_In_run _ _ _ _ h9) rfl rfl ?_
    refine rn tk 3 rfl ?_
    cases hr
    exact jn _ rfl rfl rfl
 ·
  refine rn tk 1 rfl ?_
  cases hr
  exact kr tk (.inr rfl) rfl rfl
end Go.Proofs.Ytfhfjckjmacekaa

/- A function of the program computes what its Lean function does. Written by program. -/
namespace Go.Proofs.Ytfhfjckjmacekaa
open Go.RowKit
set_option maxRecDepth 100000
set_option maxHeartbeats 40000000
set_option linter.unusedVariables false
theorem R_AddressOk_run (a0 : Str) (r : Bool) (hr : R_AddressOk a0 = some r) : Run Try.prog 19 [.s a0] (.bo r) := by
 unfold R_AddressOk at hr
 refine rf (fn := Try.f19) ⟨Try.func19, rfl, by kernel_rfl⟩ rfl (fun _ => rfl) fun g0 hg => ?_
 refine rn tk 8 rfl ?_
 obtain ⟨v1, h2, hr⟩ := bind_some hr
 refine cl (R_sign_run _ _ h2) rfl rfl ?_
 refine rn tk 10 rfl ?_
 refine al2 hr (fun s3 => [(0, .s a0), (3, .i v1), (4, .i s3)]) (fun s3 => []) (.exit 0) (fun b4 => [(0, .s a0), (3, .i v1)]) (fun b4 => []) .ret (fun b5 => [(2, .bo b5)]) (fun b5 => []) rfl rfl (fun s3 x7 hr => ?_) (fun b4 hr => ?_) (fun b5 hr => ?_)
 ·
  unfold R_AddressOk_l1 at hr
  refine rn tk 8 rfl ?_
  refine ac 10 hr rfl (fun c8 hr => ?_) (fun c8 hr => ?_)
  ·
   refine rn tk 8 rfl ?_
   obtain ⟨v9, h10, hr⟩ := bind_some hr
   refine ws tk h10 rfl rfl rfl rfl ?_
   refine rn tk 3 rfl ?_
   refine jb hr (fun j11 => [(0, .s a0), (3, .i v1), (4, .i s3), (38, .bo j11)]) (fun j11 => []) (fun j11 hr => ?_) (fun j11 hr => ?_)
   ·
    refine rn tk 2 rfl ?_
    obtain ⟨v12, h13, hr⟩ := bind_some hr
    refine cl (R_letterOrDigit_run _ _ h13) rfl rfl ?_
    refine rn tk 2 rfl ?_
    refine bs 19 hr rfl (fun c14 hr => ?_) (fun c14 hr => ?_)
    ·
     refine rn tk 4 rfl ?_
     refine bs 23 hr rfl (fun c15 hr => ?_) (fun c15 hr => ?_)
     ·
      refine rn tk 4 rfl ?_
      refine bs 27 hr rfl (fun c16 hr => ?_) (fun c16 hr => ?_)
      ·
       refine rn tk 4 rfl ?_
       refine bs 31 hr rfl (fun c17 hr => ?_) (fun c17 hr => ?_)
       ·
        refine rn tk 4 rfl ?_
        refine bs 35 hr rfl (fun c18 hr => ?_) (fun c18 hr => ?_)
        ·
         refine rn tk 4 rfl ?_
         cases hr
         exact jn _ rfl rfl rfl
        ·
         refine rn tk 4 rfl ?_
         cases hr
         exact jn _ rfl rfl rfl
       ·
        refine rn tk 8 rfl ?_
        cases hr
        exact jn _ rfl rfl rfl
      ·
       refine rn tk 12 rfl ?_
       cases hr
       exact jn _ rfl rfl rfl
     ·
      refine rn tk 16 rfl ?_
      cases hr
      exact jn _ rfl rfl rfl
    ·
     refine rn tk 20 rfl ?_
     cases hr
     exact jn _ rfl rfl rfl
   ·
    refine ac 38 hr rfl (fun c19 hr => ?_) (fun c19 hr => ?_)
    ·
     refine rn tk 8 rfl ?_
     cases hr
     exact ato rfl rfl rfl rfl
    ·
     refine rn tk 8 rfl ?_
     cases hr
     exact atc rfl rfl
  ·
   refine rn tk 2 rfl ?_
   cases hr
   exact ato rfl rfl rfl rfl
 ·
  refine rn tk 2 rfl ?_
  refine jb hr (fun j20 => [(2, .bo j20)]) (fun j20 => []) (fun j20 hr => ?_) (fun j20 hr => ?_)
  ·
   refine rn tk 2 rfl ?_
   obtain ⟨v21, h22, hr⟩ := bind_some hr
   refine cl (R_In_run _ _ _ _ h22) rfl rfl ?_
   refine rn tk 1 rfl ?_
   refine bs 41 hr rfl (fun c23 hr => ?_) (fun c23 hr => ?_)
   ·
    refine rn tk 6 rfl ?_
    refine bs 47 hr rfl (fun c24 hr => ?_) (fun c24 hr => ?_)
    ·
     refine rn tk 3 rfl ?_
     obtain ⟨v25, h26, hr⟩ := bind_some hr
     refine ug rfl rfl rfl ?_
     refine wscL tk h26 rfl rfl rfl rfl ?_
     obtain ⟨v27, h28, hr⟩ := bind_some hr
     refine ug rfl rfl rfl ?_
     refine cl (R_DomainOk_run _ _ h28) rfl rfl ?_
     refine rn tk 3 rfl ?_
     cases hr
     exact jn _ rfl rfl rfl
    ·
     refine rn tk 8 rfl ?_
     cases hr
     exact jn _ rfl rfl rfl
   ·
    refine rn tk 14 rfl ?_
    cases hr
    exact jn _ rfl rfl rfl
  ·
   refine rn tk 1 rfl ?_
   cases hr
   exact kr tk (.inr rfl) rfl rfl
 ·
  refine rn tk 2 rfl ?_
  cases hr
  exact kr tk (.inr rfl) rfl rfl
end Go.Proofs.Ytfhfjckjmacekaa

/- A function of the program computes what its Lean function does. Written by program. -/
namespace Go.Proofs.Ytfhfjckjmacekaa
open Go.RowKit
set_option maxRecDepth 100000
set_option maxHeartbeats 40000000
set_option linter.unusedVariables false
theorem R_Known_run (a0 : List TRecipient) (a1 : Str) (r : Int) (hr : R_Known a0 a1 = some r) : Run Try.prog 23 [.l TRecipient.pc a0, .s a1] (.i r) := by
 unfold R_Known at hr
 refine rf (fn := Try.f23) ⟨Try.func23, rfl, by kernel_rfl⟩ rfl (fun _ => rfl) fun g0 hg => ?_
 refine rn tk 12 rfl ?_
 refine al2 hr (fun s1 => [(0, .l TRecipient.pc a0), (1, .s a1), (5, .i s1)]) (fun s1 => []) (.exit 0) (fun b2 => []) (fun b2 => []) .ret (fun b3 => [(4, .i b3)]) (fun b3 => []) rfl rfl (fun s1 x5 hr => ?_) (fun b2 hr => ?_) (fun b3 hr => ?_)
 ·
  unfold R_Known_l1 at hr
  refine rn tk 5 rfl ?_
  refine wn tk rfl rfl rfl ?_
  refine rn tk 3 rfl ?_
  refine ac 9 hr rfl (fun c6 hr => ?_) (fun c6 hr => ?_)
  ·
   refine rn tk 8 rfl ?_
   obtain ⟨v7, h8, hr⟩ := bind_some hr
   refine wi tk h8 rfl rfl rfl rfl rfl ?_
   refine rn tk 6 rfl ?_
   refine ac 18 hr rfl (fun c9 hr => ?_) (fun c9 hr => ?_)
   ·
    refine rn tk 9 rfl ?_
    cases hr
    exact ato rfl rfl rfl rfl
   ·
    refine rn tk 8 rfl ?_
    cases hr
    exact atc rfl rfl
  ·
   refine rn tk 2 rfl ?_
   cases hr
   exact ato rfl rfl rfl rfl
 ·
  refine rn tk 8 rfl ?_
  cases hr
  exact kr tk (.inr rfl) rfl rfl
 ·
  refine rn tk 2 rfl ?_
  cases hr
  exact kr tk (.inr rfl) rfl rfl
end Go.Proofs.Ytfhfjckjmacekaa

/- A function of the program computes what its Lean function does. Written by program. -/
namespace Go.Proofs.Ytfhfjckjmacekaa
open Go.RowKit
set_option maxRecDepth 100000
set_option maxHeartbeats 40000000
set_option linter.unusedVariables false
theorem R_NameOk_run (a0 : Str) (r : Bool) (hr : R_NameOk a0 = some r) : Run Try.prog 31 [.s a0] (.bo r) := by
 unfold R_NameOk at hr
 refine rf (fn := Try.f31) ⟨Try.func31, rfl, by kernel_rfl⟩ rfl (fun _ => rfl) fun g0 hg => ?_
 refine rn tk 12 rfl ?_
 refine al2 hr (fun s1 => [(0, .s a0), (3, .i s1)]) (fun s1 => []) (.exit 0) (fun b2 => [(0, .s a0)]) (fun b2 => []) .ret (fun b3 => [(2, .bo b3)]) (fun b3 => []) rfl rfl (fun s1 x5 hr => ?_) (fun b2 hr => ?_) (fun b3 hr => ?_)
 ·
  unfold R_NameOk_l1 at hr
  refine rn tk 9 rfl ?_
  refine ac 7 hr rfl (fun c6 hr => ?_) (fun c6 hr => ?_)
  ·
   refine rn tk 4 rfl ?_
   refine jb hr (fun j7 => [(0, .s a0), (3, .i s1), (32, .bo j7)]) (fun j7 => []) (fun j7 hr => ?_) (fun j7 hr => ?_)
   ·
    refine rn tk 3 rfl ?_
    obtain ⟨v8, h9, hr⟩ := bind_some hr
    refine ws tk h9 rfl rfl rfl rfl ?_
    obtain ⟨v10, h11, hr⟩ := bind_some hr
    refine cl (R_letterOrDigit_run _ _ h11) rfl rfl ?_
    refine rn tk 2 rfl ?_
    refine bs 15 hr rfl (fun c12 hr => ?_) (fun c12 hr => ?_)
    ·
     refine rn tk 2 rfl ?_
     obtain ⟨v13, h14, hr⟩ := bind_some hr
     refine ug rfl rfl rfl ?_
     refine ws tk h14 rfl rfl rfl rfl ?_
     refine rn tk 3 rfl ?_
     refine bs 21 hr rfl (fun c15 hr => ?_) (fun c15 hr => ?_)
     ·
      refine rn tk 2 rfl ?_
      obtain ⟨v16, h17, hr⟩ := bind_some hr
      refine ug rfl rfl rfl ?_
      refine ws tk h17 rfl rfl rfl rfl ?_
      refine rn tk 3 rfl ?_
      refine bs 27 hr rfl (fun c18 hr => ?_) (fun c18 hr => ?_)
      ·
       refine rn tk 2 rfl ?_
       obtain ⟨v19, h20, hr⟩ := bind_some hr
       refine ug rfl rfl rfl ?_
       refine ws tk h20 rfl rfl rfl rfl ?_
       refine rn tk 3 rfl ?_
       cases hr
       exact jn _ rfl rfl rfl
      ·
       refine rn tk 6 rfl ?_
       cases hr
       exact jn _ rfl rfl rfl
     ·
      refine rn tk 12 rfl ?_
      cases hr
      exact jn _ rfl rfl rfl
    ·
     refine rn tk 18 rfl ?_
     cases hr
     exact jn _ rfl rfl rfl
   ·
    refine ac 32 hr rfl (fun c21 hr => ?_) (fun c21 hr => ?_)
    ·
     refine rn tk 8 rfl ?_
     cases hr
     exact ato rfl rfl rfl rfl
    ·
     refine rn tk 8 rfl ?_
     cases hr
     exact atc rfl rfl
  ·
   refine rn tk 2 rfl ?_
   cases hr
   exact ato rfl rfl rfl rfl
 ·
  refine rn tk 6 rfl ?_
  obtain ⟨v22, h23, hr⟩ := bind_some hr
  refine cl (R_In_run _ _ _ _ h23) rfl rfl ?_
  refine rn tk 4 rfl ?_
  cases hr
  exact kr tk (.inr rfl) rfl rfl
 ·
  refine rn tk 2 rfl ?_
  cases hr
  exact kr tk (.inr rfl) rfl rfl
end Go.Proofs.Ytfhfjckjmacekaa

/- A function of the program computes what its Lean function does. Written by program. -/
namespace Go.Proofs.Ytfhfjckjmacekaa
open Go.RowKit
set_option maxRecDepth 100000
set_option maxHeartbeats 40000000
set_option linter.unusedVariables false
theorem R_EnvelopeFault_run (a0 : TEnvelope) (r : TFault) (hr : R_EnvelopeFault a0 = some r) : Run Try.prog 9 [.agg [.s a0.From, .l TRecipient.pc a0.To, .s a0.Id]] (.agg [.i r.Code, .i r.Index]) := by
 unfold R_EnvelopeFault at hr
 refine rf (fn := Try.f9) ⟨Try.func9, rfl, by kernel_rfl⟩ rfl (fun _ => rfl) fun g0 hg => ?_
 refine rn tk 7 rfl ?_
 refine jb hr (fun j1 => [(1, .ptr 1 0), (2, .ptr 2 0), (12, .bo j1)]) (fun j1 => [(2, .cells [.i 0, .i 0]), (1, .cells [.s a0.From, .l TRecipient.pc a0.To, .s a0.Id])]) (fun j1 hr => ?_) (fun j1 hr => ?_)
 ·
  refine rn tk 5 rfl ?_
  refine bs 7 hr rfl (fun c2 hr => ?_) (fun c2 hr => ?_)
  ·
   refine rn tk 2 rfl ?_
   obtain ⟨v3, h4, hr⟩ := bind_some hr
   refine ug rfl rfl rfl ?_
   refine cl (R_AddressOk_run _ _ h4) rfl rfl ?_
   refine rn tk 3 rfl ?_
   cases hr
   exact jn _ rfl rfl rfl
  ·
   refine rn tk 6 rfl ?_
   cases hr
   exact jn _ rfl rfl rfl
 ·
  refine ac 12 hr rfl (fun c5 hr => ?_) (fun c5 hr => ?_)
  ·
   refine rn tk 2 rfl ?_
   obtain ⟨v6, h7, hr⟩ := bind_some hr
   refine cl (R_At_run _ _ _ h7) rfl rfl ?_
   refine rn tk 5 rfl ?_
   cases hr
   exact kr tk (.inr rfl) rfl rfl
  ·
   refine rn tk 7 rfl ?_
   refine wn tk rfl rfl rfl ?_
   obtain ⟨v8, h9, hr⟩ := bind_some hr
   refine cl (R_In_run _ _ _ _ h9) rfl rfl ?_
   refine rn tk 3 rfl ?_
   refine ac 18 hr rfl (fun c10 hr => ?_) (fun c10 hr => ?_)
   ·
    refine rn tk 2 rfl ?_
    obtain ⟨v11, h12, hr⟩ := bind_some hr
    refine cl (R_At_run _ _ _ h12) rfl rfl ?_
    refine rn tk 5 rfl ?_
    cases hr
    exact kr tk (.inr rfl) rfl rfl
   ·
    refine rn tk 3 rfl ?_
    refine jb hr (fun j13 => [(1, .ptr 1 0), (2, .ptr 2 0), (28, .bo j13)]) (fun j13 => [(2, .cells [.i 0, .i 0]), (1, .cells [.s a0.From, .l TRecipient.pc a0.To, .s a0.Id])]) (fun j13 hr => ?_) (fun j13 hr => ?_)
    ·
     refine rn tk 5 rfl ?_
     refine bs 23 hr rfl (fun c14 hr => ?_) (fun c14 hr => ?_)
     ·
      refine rn tk 2 rfl ?_
      obtain ⟨v15, h16, hr⟩ := bind_some hr
      refine ug rfl rfl rfl ?_
      refine cl (R_NameOk_run _ _ h16) rfl rfl ?_
      refine rn tk 3 rfl ?_
      cases hr
      exact jn _ rfl rfl rfl
     ·
      refine rn tk 6 rfl ?_
      cases hr
      exact jn _ rfl rfl rfl
    ·
     refine ac 28 hr rfl (fun c17 hr => ?_) (fun c17 hr => ?_)
     ·
      refine rn tk 2 rfl ?_
      obtain ⟨v18, h19, hr⟩ := bind_some hr
      refine cl (R_At_run _ _ _ h19) rfl rfl ?_
      refine rn tk 5 rfl ?_
      cases hr
      exact kr tk (.inr rfl) rfl rfl
     ·
      refine rn tk 9 rfl ?_
      refine al2 hr (fun s20 => [(1, .ptr 1 0), (2, .ptr 2 0), (3, .i s20)]) (fun s20 => [(2, .cells [.i 0, .i 0]), (1, .cells [.s a0.From, .l TRecipient.pc a0.To, .s a0.Id])]) (.exit 0) (fun b21 => [(2, .ptr 2 0)]) (fun b21 => [(2, .cells [.i 0, .i 0])]) .ret (fun b22 => [(2, .ptr 2 0)]) (fun b22 => [(2, .cells [.i b22.Code, .i b22.Index])]) rfl rfl (fun s20 x24 hr => ?_) (fun b21 hr => ?_) (fun b22 hr => ?_)
      ·
       unfold R_EnvelopeFault_l1 at hr
       refine rn tk 6 rfl ?_
       refine wn tk rfl rfl rfl ?_
       refine rn tk 3 rfl ?_
       refine ac 34 hr rfl (fun c25 hr => ?_) (fun c25 hr => ?_)
       ·
        refine rn tk 10 rfl ?_
        obtain ⟨v26, h27, hr⟩ := bind_some hr
        refine wi tk h27 rfl rfl rfl rfl rfl ?_
        refine rn tk 2 rfl ?_
        obtain ⟨v28, h29, hr⟩ := bind_some hr
        refine cl (R_AddressOk_run _ _ h29) rfl rfl ?_
        refine rn tk 3 rfl ?_
        refine ac 44 hr rfl (fun c30 hr => ?_) (fun c30 hr => ?_)
        ·
         refine rn tk 3 rfl ?_
         obtain ⟨v31, h32, hr⟩ := bind_some hr
         refine cl (R_At_run _ _ _ h32) rfl rfl ?_
         refine rn tk 7 rfl ?_
         cases hr
         exact ato rfl rfl rfl rfl
        ·
         refine rn tk 8 rfl ?_
         obtain ⟨v33, h34, hr⟩ := bind_some hr
         refine wi tk h34 rfl rfl rfl rfl rfl ?_
         refine rn tk 2 rfl ?_
         obtain ⟨v35, h36, hr⟩ := bind_some hr
         refine cl (R_In_run _ _ _ _ h36) rfl rfl ?_
         refine rn tk 3 rfl ?_
         refine ac 54 hr rfl (fun c37 hr => ?_) (fun c37 hr => ?_)
         ·
          refine rn tk 3 rfl ?_
          obtain ⟨v38, h39, hr⟩ := bind_some hr
          refine cl (R_At_run _ _ _ h39) rfl rfl ?_
          refine rn tk 7 rfl ?_
          cases hr
          exact ato rfl rfl rfl rfl
         ·
          refine rn tk 3 rfl ?_
          obtain ⟨v40, h41, hr⟩ := bind_some hr
          obtain ⟨v42, h43, hr⟩ := bind_some hr
          refine dr 10 [(66, .s v42.Address), (65, .ep [pS v42.Address, pI v42.Notify]), (64, .ep [pS v42.Address, pI v42.Notify]), (63, .i s20), (62, .l TRecipient.pc a0.To), (61, .ptr 1 1), (60, .l TRecipient.pc v40), (59, .i s20), (58, .l TRecipient.pc a0.To), (57, .ptr 1 1)] mixed (by kernel_rfl) rfl rfl (pq tk rfl (.plain rfl) (pq tk rfl (.plain rfl) (pq tk rfl (.plain rfl) (.run (.plain rfl) (opG_q (ev_cutH (F := TRecipient.pc) rfl rfl ty_s_api_Recipient ty_api_Recipient (fun _ => rfl) h41)) (pq tk rfl (.plain rfl) (pq tk rfl (.plain rfl) (pq tk rfl (.plain rfl) (.run (.plain rfl) (opG_q (ev_idx (f := TRecipient.pc) rfl rfl ty_s_api_Recipient ty_api_Recipient rfl h43)) (pq tk rfl (.plain rfl) (pq tk rfl (.plain rfl) .nil)))))))))) rfl ?_
          obtain ⟨v44, h45, hr⟩ := bind_some hr
          refine cl (R_Known_run _ _ _ h45) rfl rfl ?_
          refine rn tk 3 rfl ?_
          refine ac 68 hr rfl (fun c46 hr => ?_) (fun c46 hr => ?_)
          ·
           refine rn tk 3 rfl ?_
           obtain ⟨v47, h48, hr⟩ := bind_some hr
           refine cl (R_At_run _ _ _ h48) rfl rfl ?_
           refine rn tk 6 rfl ?_
           cases hr
           exact ato rfl rfl rfl rfl
          ·
           refine rn tk 8 rfl ?_
           cases hr
           exact atc rfl rfl
       ·
        refine rn tk 2 rfl ?_
        cases hr
        exact ato rfl rfl rfl rfl
      ·
       refine rn tk 9 rfl ?_
       cases hr
       exact kr tk (.inr rfl) rfl rfl
      ·
       refine rn tk 2 rfl ?_
       cases hr
       exact kr tk (.inr rfl) rfl rfl
end Go.Proofs.Ytfhfjckjmacekaa

/- A function of the program computes what its Lean function does. Written by program. -/
namespace Go.Proofs.Ytfhfjckjmacekaa
open Go.RowKit
set_option maxRecDepth 100000
set_option maxHeartbeats 40000000
set_option linter.unusedVariables false
theorem R_Has_run (a0 : List Str) (a1 : Str) (r : Bool) (hr : R_Has a0 a1 = some r) : Run Try.prog 14 [.l cS a0, .s a1] (.bo r) := by
 unfold R_Has at hr
 refine rf (fn := Try.f14) ⟨Try.func14, rfl, by kernel_rfl⟩ rfl (fun _ => rfl) fun g0 hg => ?_
 refine rn tk 12 rfl ?_
 refine al2 hr (fun s1 => [(0, .l cS a0), (1, .s a1), (5, .i s1)]) (fun s1 => []) (.exit 0) (fun b2 => []) (fun b2 => []) .ret (fun b3 => [(4, .bo b3)]) (fun b3 => []) rfl rfl (fun s1 x5 hr => ?_) (fun b2 hr => ?_) (fun b3 hr => ?_)
 ·
  unfold R_Has_l1 at hr
  refine rn tk 5 rfl ?_
  refine wn tk rfl rfl rfl ?_
  refine rn tk 3 rfl ?_
  refine ac 9 hr rfl (fun c6 hr => ?_) (fun c6 hr => ?_)
  ·
   refine rn tk 8 rfl ?_
   obtain ⟨v7, h8, hr⟩ := bind_some hr
   refine wi tk h8 rfl rfl rfl rfl rfl ?_
   refine rn tk 5 rfl ?_
   refine ac 17 hr rfl (fun c9 hr => ?_) (fun c9 hr => ?_)
   ·
    refine rn tk 8 rfl ?_
    cases hr
    exact ato rfl rfl rfl rfl
   ·
    refine rn tk 8 rfl ?_
    cases hr
    exact atc rfl rfl
  ·
   refine rn tk 2 rfl ?_
   cases hr
   exact ato rfl rfl rfl rfl
 ·
  refine rn tk 8 rfl ?_
  cases hr
  exact kr tk (.inr rfl) rfl rfl
 ·
  refine rn tk 2 rfl ?_
  cases hr
  exact kr tk (.inr rfl) rfl rfl
end Go.Proofs.Ytfhfjckjmacekaa

/- A function of the program computes what its Lean function does. Written by program. -/
namespace Go.Proofs.Ytfhfjckjmacekaa
open Go.RowKit
set_option maxRecDepth 100000
set_option maxHeartbeats 40000000
set_option linter.unusedVariables false
theorem L_EnvelopeDomainsMatchSpec_run (a0 : TEnvelope) (a1 : Str) (r : Bool) (hr : L_EnvelopeDomainsMatchSpec a0 a1 = some r) : Run Try.prog 3 [.agg [.s a0.From, .l TRecipient.pc a0.To, .s a0.Id], .s a1] (.bo r) := by
 unfold L_EnvelopeDomainsMatchSpec at hr
 refine rf (fn := Try.f3) ⟨Try.func3, rfl, by kernel_rfl⟩ rfl (fun _ => rfl) fun g0 hg => ?_
 refine rn tk 9 rfl ?_
 obtain ⟨v1, h2, hr⟩ := bind_some hr
 refine cl (R_EnvelopeFault_run _ _ h2) rfl rfl ?_
 refine rn tk 7 rfl ?_
 obtain ⟨v3, h4, hr⟩ := bind_some hr
 refine cl (envelope_Domains_run _ _ h4) rfl rfl ?_
 refine rn tk 12 rfl ?_
 obtain ⟨v5, h6, hr⟩ := bind_some hr
 refine cl (envelope_For_run _ _ _ h6) rfl rfl ?_
 refine rn tk 10 rfl ?_
 refine jb hr (fun j7 => [(1, .s a1), (2, .ptr 2 0), (5, .ptr 5 0), (6, .l cS v3.1), (7, .ptr 7 0), (8, .ptr 8 0), (9, .ptr 9 0), (38, .bo j7)]) (fun j7 => [(9, .cells [.i v5.2.Code, .i v5.2.Index]), (8, .cells [.s v5.1.From, .l TRecipient.pc v5.1.To, .s v5.1.Id]), (7, .cells [.i v3.2.Code, .i v3.2.Index]), (5, .cells [.i v1.Code, .i v1.Index]), (2, .cells [.s a0.From, .l TRecipient.pc a0.To, .s a0.Id])]) (fun j7 hr => ?_) (fun j7 hr => ?_)
 ·
  refine rn tk 1 rfl ?_
  obtain ⟨v8, h9, hr⟩ := bind_some hr
  refine cl (L_envelopes_run _ h9) rfl rfl ?_
  refine rn tk 2 rfl ?_
  refine bs 29 hr rfl (fun c10 hr => ?_) (fun c10 hr => ?_)
  ·
   refine rn tk 10 rfl ?_
   cases hr
   exact jn _ rfl rfl rfl
  ·
   refine rn tk 2 rfl ?_
   refine ug rfl rfl rfl ?_
   refine wq (ev_structne rfl rfl ty_api_Fault cmp_api_Fault (.int rfl (by decide) ty_int (.int rfl (by decide) ty_int .nil))) rfl rfl rfl ?_
   refine rn tk 2 rfl ?_
   refine bs 34 hr rfl (fun c11 hr => ?_) (fun c11 hr => ?_)
   ·
    refine rn tk 5 rfl ?_
    cases hr
    exact jn _ rfl rfl rfl
   ·
    refine rn tk 5 rfl ?_
    cases hr
    exact jn _ rfl rfl rfl
 ·
  refine ac 38 hr rfl (fun c12 hr => ?_) (fun c12 hr => ?_)
  ·
   refine jb hr (fun j13 => [(4, .bo j13)]) (fun j13 => []) (fun j13 hr => ?_) (fun j13 hr => ?_)
   ·
    refine rn tk 1 rfl ?_
    obtain ⟨v14, h15, hr⟩ := bind_some hr
    refine cl (L_envelopes_run _ h15) rfl rfl ?_
    refine rn tk 1 rfl ?_
    refine bs 40 hr rfl (fun c16 hr => ?_) (fun c16 hr => ?_)
    ·
     refine rn tk 2 rfl ?_
     refine ug rfl rfl rfl ?_
     refine wq (ev_structeq rfl rfl ty_api_Fault cmp_api_Fault (.int rfl (by decide) ty_int (.int rfl (by decide) ty_int .nil))) rfl rfl rfl ?_
     refine rn tk 2 rfl ?_
     refine bs 45 hr rfl (fun c17 hr => ?_) (fun c17 hr => ?_)
     ·
      refine rn tk 2 rfl ?_
      refine ug rfl rfl rfl ?_
      refine wq (ev_structeq rfl rfl ty_api_Fault cmp_api_Fault (.int rfl (by decide) ty_int (.int rfl (by decide) ty_int .nil))) rfl rfl rfl ?_
      refine rn tk 2 rfl ?_
      refine bs 50 hr rfl (fun c18 hr => ?_) (fun c18 hr => ?_)
      ·
       refine rn tk 1 rfl ?_
       refine ug rfl rfl rfl ?_
       refine wn tk rfl rfl rfl ?_
       refine rn tk 3 rfl ?_
       refine bs 55 hr rfl (fun c19 hr => ?_) (fun c19 hr => ?_)
       ·
        refine rn tk 2 rfl ?_
        refine ug rfl rfl rfl ?_
        refine wn tk rfl rfl rfl ?_
        refine rn tk 3 rfl ?_
        refine bs 61 hr rfl (fun c20 hr => ?_) (fun c20 hr => ?_)
        ·
         refine rn tk 5 rfl ?_
         refine bs 66 hr rfl (fun c21 hr => ?_) (fun c21 hr => ?_)
         ·
          refine rn tk 6 rfl ?_
          cases hr
          exact jn _ rfl rfl rfl
         ·
          refine rn tk 6 rfl ?_
          cases hr
          exact jn _ rfl rfl rfl
        ·
         refine rn tk 11 rfl ?_
         cases hr
         exact jn _ rfl rfl rfl
       ·
        refine rn tk 17 rfl ?_
        cases hr
        exact jn _ rfl rfl rfl
      ·
       refine rn tk 22 rfl ?_
       cases hr
       exact jn _ rfl rfl rfl
     ·
      refine rn tk 27 rfl ?_
      cases hr
      exact jn _ rfl rfl rfl
    ·
     refine rn tk 32 rfl ?_
     cases hr
     exact jn _ rfl rfl rfl
   ·
    refine rn tk 2 rfl ?_
    cases hr
    exact kr tk (.inr rfl) rfl rfl
  ·
   refine rn tk 5 rfl ?_
   refine awpl_adopt 1010 (d := 10) 9 1 rfl rfl rfl (hO ?_)
   refine rn tk 5 rfl ?_
   refine awpl_adopt 1011 (d := 11) 36 2 rfl rfl rfl (hO ?_)
   refine rn tk 9 rfl ?_
   refine al1 hr (fun s22 => [(1, .s a1), (2, .ptr 2 0), (6, .l cS v3.1), (8, .ptr 8 0), (9, .ptr 9 0), (10, .hs 1010 0), (11, .hs 1011 0), (12, .i s22.1)]) (fun s22 => [(1011, .row 36 false 2 (List.map TRecipient.pc s22.2.1)), (1010, .row 9 false 1 (List.map cS s22.2.2)), (9, .cells [.i v5.2.Code, .i v5.2.Index]), (8, .cells [.s v5.1.From, .l TRecipient.pc v5.1.To, .s v5.1.Id]), (2, .cells [.s a0.From, .l TRecipient.pc a0.To, .s a0.Id])]) (.exit 0) (fun b23 => [(2, .ptr 2 0), (6, .l cS v3.1), (8, .ptr 8 0), (9, .ptr 9 0), (10, .hs 1010 0), (11, .hs 1011 0)]) (fun b23 => [(1011, .row 36 false 2 (List.map TRecipient.pc b23.1)), (1010, .row 9 false 1 (List.map cS b23.2)), (9, .cells [.i v5.2.Code, .i v5.2.Index]), (8, .cells [.s v5.1.From, .l TRecipient.pc v5.1.To, .s v5.1.Id]), (2, .cells [.s a0.From, .l TRecipient.pc a0.To, .s a0.Id])]) rfl rfl (fun s22 x24 hr => ?_) (fun b23 hr => ?_)
   ·
    unfold L_EnvelopeDomainsMatchSpec_l1 at hr
    refine rn tk 6 rfl ?_
    refine wn tk rfl rfl rfl ?_
    refine rn tk 3 rfl ?_
    refine ac 75 hr rfl (fun c25 hr => ?_) (fun c25 hr => ?_)
    ·
     refine rn tk 2 rfl ?_
     refine jb hr (fun j26 => [(1, .s a1), (2, .ptr 2 0), (6, .l cS v3.1), (8, .ptr 8 0), (9, .ptr 9 0), (10, .hs 1010 0), (11, .hs 1011 0), (12, .i s22.1)]) (fun j26 => [(1011, .row 36 false 2 (List.map TRecipient.pc j26.1)), (1010, .row 9 false 1 (List.map cS j26.2)), (9, .cells [.i v5.2.Code, .i v5.2.Index]), (8, .cells [.s v5.1.From, .l TRecipient.pc v5.1.To, .s v5.1.Id]), (2, .cells [.s a0.From, .l TRecipient.pc a0.To, .s a0.Id])]) (fun j26 hr => ?_) (fun j26 hr => ?_)
     ·
      refine rn tk 6 rfl ?_
      obtain ⟨v27, h28, hr⟩ := bind_some hr
      refine wi tk h28 rfl rfl rfl rfl rfl ?_
      refine rn tk 2 rfl ?_
      obtain ⟨v29, h30, hr⟩ := bind_some hr
      refine cl (R_DomainOf_run _ _ h30) rfl rfl ?_
      refine rn tk 3 rfl ?_
      refine jb hr (fun j31 => [(1, .s a1), (2, .ptr 2 0), (6, .l cS v3.1), (8, .ptr 8 0), (9, .ptr 9 0), (10, .hs 1010 0), (11, .hs 1011 0), (12, .i s22.1), (13, .s v29)]) (fun j31 => [(1011, .row 36 false 2 (List.map TRecipient.pc s22.2.1)), (1010, .row 9 false 1 (List.map cS j31)), (9, .cells [.i v5.2.Code, .i v5.2.Index]), (8, .cells [.s v5.1.From, .l TRecipient.pc v5.1.To, .s v5.1.Id]), (2, .cells [.s a0.From, .l TRecipient.pc a0.To, .s a0.Id])]) (fun j31 hr => ?_) (fun j31 hr => ?_)
      ·
       refine rn tk 4 rfl ?_
       refine awpl_pub (d := 85) (F := cS) (l := s22.2.2) rfl rfl (hO ?_)
       obtain ⟨v32, h33, hr⟩ := bind_some hr
       refine cl (R_Has_run _ _ _ h33) rfl rfl ?_
       refine rn tk 3 rfl ?_
       refine ac 88 hr rfl (fun c34 hr => ?_) (fun c34 hr => ?_)
       ·
        refine rn tk 3 rfl ?_
        refine wz cS ([v29] : List Str) tk rfl rfl (fun _ => rfl) rfl rfl rfl ?_
        obtain ⟨v35, h36, hr⟩ := bind_some hr
        refine wa tk h36 rfl rfl rfl rfl (fun _ => rfl) rfl rfl ?_
        refine rn tk 2 rfl ?_
        cases hr
        exact jn _ rfl rfl rfl
       ·
        refine rn tk 1 rfl ?_
        cases hr
        exact jn _ rfl rfl rfl
      ·
       refine rn tk 7 rfl ?_
       refine ac 95 hr rfl (fun c37 hr => ?_) (fun c37 hr => ?_)
       ·
        refine rn tk 5 rfl ?_
        obtain ⟨v38, h39, hr⟩ := bind_some hr
        refine wi tk h39 rfl rfl rfl rfl rfl ?_
        refine rn tk 1 rfl ?_
        refine wz TRecipient.pc ([v38] : List TRecipient) tk rfl rfl (fun _ => rfl) rfl rfl rfl ?_
        obtain ⟨v40, h41, hr⟩ := bind_some hr
        refine wa tk h41 rfl rfl rfl rfl (fun _ => rfl) rfl rfl ?_
        refine rn tk 3 rfl ?_
        cases hr
        exact jn _ rfl rfl rfl
       ·
        refine rn tk 2 rfl ?_
        cases hr
        exact jn _ rfl rfl rfl
     ·
      refine rn tk 5 rfl ?_
      cases hr
      exact atc rfl rfl
    ·
     refine rn tk 2 rfl ?_
     cases hr
     exact ato rfl rfl rfl rfl
   ·
    refine rn tk 7 rfl ?_
    refine awpl_pub (d := 105) (F := cS) (l := b23.2) rfl rfl (hO ?_)
    obtain ⟨v42, h43, hr⟩ := bind_some hr
    refine cl (R_Strings_run _ _ _ h43) rfl rfl ?_
    refine rn tk 3 rfl ?_
    refine ac 107 hr rfl (fun c44 hr => ?_) (fun c44 hr => ?_)
    ·
     refine rn tk 7 rfl ?_
     cases hr
     exact kr tk (.inr rfl) rfl rfl
    ·
     refine rn tk 6 rfl ?_
     refine wnh tk rfl rfl rfl rfl ?_
     refine rn tk 3 rfl ?_
     refine ac 110 hr rfl (fun c45 hr => ?_) (fun c45 hr => ?_)
     ·
      refine jb hr (fun j46 => [(4, .bo j46)]) (fun j46 => []) (fun j46 hr => ?_) (fun j46 hr => ?_)
      ·
       obtain ⟨v47, h48, hr⟩ := bind_some hr
       refine dr 2 [(112, .agg [.i v47.Code, .i v47.Index]), (111, .agg [.i v5.2.Code, .i v5.2.Index])] mixed (by kernel_rfl) rfl rfl (pq tk rfl (.plain rfl) (.run (.plain rfl) (opG_call (R_At_run 6 ((-13)) v47 h48) rfl) .nil)) rfl ?_
       refine wq (ev_structeq rfl rfl ty_api_Fault cmp_api_Fault (.int rfl (by decide) ty_int (.int rfl (by decide) ty_int .nil))) rfl rfl rfl ?_
       refine rn tk 1 rfl ?_
       refine bs 114 hr rfl (fun c49 hr => ?_) (fun c49 hr => ?_)
       ·
        refine rn tk 2 rfl ?_
        refine ug rfl rfl rfl ?_
        refine wn tk rfl rfl rfl ?_
        refine rn tk 3 rfl ?_
        refine bs 120 hr rfl (fun c50 hr => ?_) (fun c50 hr => ?_)
        ·
         refine rn tk 5 rfl ?_
         refine bs 125 hr rfl (fun c51 hr => ?_) (fun c51 hr => ?_)
         ·
          refine rn tk 6 rfl ?_
          cases hr
          exact jn _ rfl rfl rfl
         ·
          refine rn tk 6 rfl ?_
          cases hr
          exact jn _ rfl rfl rfl
        ·
         refine rn tk 11 rfl ?_
         cases hr
         exact jn _ rfl rfl rfl
       ·
        refine rn tk 17 rfl ?_
        cases hr
        exact jn _ rfl rfl rfl
      ·
       refine rn tk 2 rfl ?_
       cases hr
       exact kr tk (.inr rfl) rfl rfl
     ·
      refine rn tk 2 rfl ?_
      refine jb hr (fun j52 => [(4, .bo j52)]) (fun j52 => []) (fun j52 hr => ?_) (fun j52 hr => ?_)
      ·
       refine rn tk 5 rfl ?_
       refine bs 133 hr rfl (fun c53 hr => ?_) (fun c53 hr => ?_)
       ·
        refine rn tk 7 rfl ?_
        refine bs 140 hr rfl (fun c54 hr => ?_) (fun c54 hr => ?_)
        ·
         refine rn tk 7 rfl ?_
         refine bs 147 hr rfl (fun c55 hr => ?_) (fun c55 hr => ?_)
         ·
          refine rn tk 3 rfl ?_
          refine awpl_pub (d := 150) (F := TRecipient.pc) (l := b23.1) rfl rfl (hO ?_)
          obtain ⟨v56, h57, hr⟩ := bind_some hr
          refine ug rfl rfl rfl ?_
          refine cl (R_SameRecipients_run _ _ _ h57) rfl rfl ?_
          refine rn tk 3 rfl ?_
          cases hr
          exact jn _ rfl rfl rfl
         ·
          refine rn tk 7 rfl ?_
          cases hr
          exact jn _ rfl rfl rfl
        ·
         refine rn tk 14 rfl ?_
         cases hr
         exact jn _ rfl rfl rfl
       ·
        refine rn tk 21 rfl ?_
        cases hr
        exact jn _ rfl rfl rfl
      ·
       refine rn tk 1 rfl ?_
       cases hr
       exact kr tk (.inr rfl) rfl rfl
end Go.Proofs.Ytfhfjckjmacekaa

/- Small facts that all my walks use: endings, blocks, rows, frames. No program is named. -/
namespace Go.Proofs.Ytfhfjckjmacekaa
open Go.RowKit

theorem ret_bool {a b : Bool} (h : a = b) : Ending.returned (.bool a) = .returned (.bool b) := by rw [h]
theorem ret_int {k : IntKind} {a b : Int} (h : a = b) : Ending.returned (.int k a) = .returned (.int k b) := by rw [h]

theorem take_all {α : Type} (p : α → Bool) (l : List α) (k : Nat) (h : k < l.length) : (l.take (k + 1)).all p = ((l.take k).all p && p l[k]) := by
  rw [List.take_succ_eq_append_getElem h, List.all_append]; simp
theorem all_false {α : Type} (p : α → Bool) (l : List α) (k : Nat) (h : k < l.length) (hp : p l[k] = false) : l.all p = false := by
  rw [List.all_eq_false]; exact ⟨l[k], List.getElem_mem h, by simp [hp]⟩

theorem bcell {W w1 : World} (hb : Below W.heap.size W w1) : (∀ b o, b < W.heap.size → w1.cell? ⟨b, o, none⟩ = W.cell? ⟨b, o, none⟩) ∧ (∀ b o, b < W.heap.size → w1.frozen? ⟨b, o, none⟩ = W.frozen? ⟨b, o, none⟩) :=
  ⟨fun b o h => hb.cell (p := ⟨b, o, none⟩) h, fun b o h => hb.frozen (p := ⟨b, o, none⟩) h⟩


/-- block b is just these cells, none frozen -/
def Blk (w : World) (b : Nat) (t : TypeId) (cs : Array Value) : Prop := w.heap[b]? = some (.cells cs t (0, 0))
theorem Blk.lt {w : World} {b : Nat} {t : TypeId} {cs : Array Value} (h : Blk w b t cs) : b < w.heap.size := by
  rcases Nat.lt_or_ge b w.heap.size with hlt | hge
  · exact hlt
  · unfold Blk at h; rw [Array.getElem?_eq_none hge] at h; cases h
theorem Blk.two {w : World} {b : Nat} {t : TypeId} {x y : Value} (h : Blk w b t #[x, y]) :
    w.cell? ⟨b, 0, none⟩ = some x ∧ w.cell? ⟨b, 1, none⟩ = some y ∧ w.frozen? ⟨b, 0, none⟩ = false ∧ w.frozen? ⟨b, 1, none⟩ = false ∧ b < w.heap.size := by
  refine ⟨?_, ?_, ?_, ?_, h.lt⟩ <;> unfold Blk at h <;> simp [World.cell?, World.frozen?, h]
theorem Blk.new (w : World) (t : TypeId) (cs : Array Value) : Blk (w.alloc (.cells cs t)) w.heap.size t cs := heap_alloc_new w _
theorem Blk.alloc {w : World} {b : Nat} {t : TypeId} {cs : Array Value} (h : Blk w b t cs) (o : Obj) : Blk (w.alloc o) b t cs := (Below.heap_alloc w o b h.lt).trans h
theorem Blk.below {w w' : World} {b : Nat} {t : TypeId} {cs : Array Value} {B : Nat} (h : Blk w b t cs) (hb : Below B w w') (hg : b < B) : Blk w' b t cs := (hb.block b hg).trans h

theorem val_int {k : IntKind} {a b : Int} (h : a = b) : Value.int k a = .int k b := by rw [h]
theorem tup3 {k : IntKind} {a b : Int} {x y : Value} (h : a = b) : Ending.returned (.tuple #[.int k a, x, y]) = .returned (.tuple #[.int k b, x, y]) := by rw [h]
section
variable {w1 w2 : World} {b t : Nat} {cs : Array Value} {o : Obj}
theorem Blk.step_new (hb : Below (w1.alloc (.cells cs t)).heap.size (w1.alloc (.cells cs t)) w2) : Blk w2 w1.heap.size t cs :=
  (Blk.new w1 t cs).below hb (by simp)
theorem Blk.step_old (h : Blk w1 b t cs) (hb : Below (w1.alloc o).heap.size (w1.alloc o) w2) : Blk w2 b t cs :=
  (h.alloc o).below hb (by have := h.lt; simp; omega)
end
theorem below_step {w w1 w2 : World} {o : Obj} (h : Below w.heap.size w w1) (hb : Below (w1.alloc o).heap.size (w1.alloc o) w2) : Below w.heap.size w w2 :=
  (h.alloc h.size o).trans (hb.mono (by have := h.size; simp; omega))
theorem below_trans {w w1 w2 : World} (h : Below w.heap.size w w1) (hb : Below w1.heap.size w1 w2) : Below w.heap.size w w2 :=
  h.trans (hb.mono h.size)

theorem keep2 {W w5 w6 : World} {b : Nat} {x y : Value} (h : w5.cell? ⟨b, 0, none⟩ = some x ∧ w5.cell? ⟨b, 1, none⟩ = some y ∧ Below W.heap.size W w5) (hb : b < W.heap.size) (k : Below w5.heap.size w5 w6) :
    w6.cell? ⟨b, 0, none⟩ = some x ∧ w6.cell? ⟨b, 1, none⟩ = some y ∧ Below W.heap.size W w6 := by
  have hs := h.2.2.size
  exact ⟨(k.cell (p := ⟨b, 0, none⟩) (Nat.lt_of_lt_of_le hb hs)).trans h.1, (k.cell (p := ⟨b, 1, none⟩) (Nat.lt_of_lt_of_le hb hs)).trans h.2.1, below_trans h.2.2 k⟩

/-- a slice of cells, one a value: it holds these values -/
def Row (w : World) (a : Option Addr) (len : Nat) (vs : List Value) : Prop :=
  vs.length = len ∧ (len = 0 ∨ ∃ b off, a = some ⟨b, off, none⟩ ∧ ∀ i v, vs[i]? = some v → w.cell? ⟨b, off + i, none⟩ = some v)


end Go.Proofs.Ytfhfjckjmacekaa

/- What every law's row wants at its end: arguments of any shape read as they did where nothing that was there has turned. -/
namespace Go.Proofs.Ytfhfjckjmacekaa
open Go.ChangeShapes Go.WideShapes Go.ChangeAt Go.RowKit
open Go.ChangeMaps (open_string shut_string)

theorem own : ownKnob Try.prog.godebug = none := by kernel_rfl
theorem laidOut : laidOutB Try.prog = true := by kernel_rfl

theorem trodAll_stays {H : Type} {enc : TypeId × Value → H} {P : Program} (hl : laidOutB P = true) {W W' : World} (hb : Below W.heap.size W W') :
    ∀ (ts : List TypeId) (vs : List Value) (ds : List (DataW H)) (ps : List MemPlace), (ts.all fun t => P.readableRec t && decide (t < P.types.size)) = true →
      DataW.TrodAll enc P W 0 (fun _ => true) true ts vs ds ps → DataW.TrodAll enc P W' 0 (fun b => decide (b < W.heap.size)) true ts vs ds ps
  | [], [], [], _, _, h => h
  | t :: ts, v :: vs, d :: ds, ps, hts, ⟨p, q, h, hs, e⟩ => by
    simp only [List.all_cons, Bool.and_eq_true, decide_eq_true_eq] at hts
    have lt : ∀ x ∈ p, x.block < W.heap.size := by obtain ⟨m, hm⟩ := h; exact DataW.trod_lt m _ _ _ hm
    exact ⟨p, q, Below.trod hl hts.1.1 hts.1.2 h hb lt, trodAll_stays hl hb ts vs ds q hts.2 hs, e⟩

/-- THE POST of a law: it returned true, and nothing that was there has turned. -/
theorem post_true {H : Type} {enc : TypeId × Value → H} {P : Program} {f : Func} {s : ChangeSpec} {t : TypeId} (hl : laidOutB P = true) (hres : f.resultTypes = #[t]) (ht : P.underlying t = some .bool)
    (hts : (f.params.toList.all fun t => P.readableRec t && decide (t < P.types.size)) = true) {W W' : World} {args : Array Value} {ds gs : List (DataW H)} {before : List MemPlace} (hv : s.vars = [])
    (hspec : s.fn H (ds ++ gs) = { results := [.lit (.bool true)], args := ds, vars := [] })
    (hW : DataW.Whole enc P f.params.toList s.vars false W args.toList ds gs before) (hb : Below W.heap.size W W') :
    s.post enc P f false true false false W args (.bool true) W' := by
  have hW' := hW
  obtain ⟨p, q, hA, hV, hbe, hfz, hnd⟩ := hW
  refine ⟨ds, gs, before, [], p, [], hW', ?_, ?_, ?_, ?_, fun h => by cases h⟩
  · rw [hspec, hres]; exact trodAll_mk1 (shut_bool ht _)
  · rw [hspec]; exact trodAll_stays hl hb _ _ _ _ hts hA
  · rw [hspec, hv]; rfl
  · have hq : q = [] := by rw [hv] at hV; cases gs with
      | nil => exact hV
      | cons g gs => exact hV.elim
    refine World.keptBut_mono (fun p hp => ⟨hp, ?_⟩) (hb.frame (· ∈ before))
    rw [hbe, hq, List.append_nil] at hp
    exact .inr (.inl hp)

/-- a slice of integers that came in -/
theorem open_row_int {H : Type} {enc : TypeId × Value → H} {P : Program} {W : World} {base : Nat} {t e : TypeId} {k : IntKind} {v : Value} {d : DataW H} {p : List MemPlace} (ht : P.underlying t = some (.slice e)) (he : P.underlying e = some (.int k)) (hc : P.cellsOf e = 1)
    (hok : Value.okWide P W .any base t v) (h : DataW.Trod enc P W 0 (fun _ => true) true t v d p) :
    ∃ (a : Option Addr) (len cap : Nat) (zs : List Int), v = .slice a len cap ∧ len ≤ maxLen ∧ Row W a len (zs.map (Value.int k)) ∧ ∀ z ∈ zs, (Lit.int k z).wf = true := by
  obtain ⟨a, len, cap, rfl⟩ := okWide_slice ht hok
  obtain ⟨fuel, hf⟩ := h
  rcases open_ints ht he hc hf with ⟨hcs, _⟩ | ⟨x, l, c, zs, hcs, _, hl, hm, hz, _, hcell, hwz⟩
  · simp [Value.cells] at hcs
    obtain ⟨rfl, rfl, rfl⟩ := hcs
    exact ⟨none, 0, 0, [], rfl, Nat.zero_le _, ⟨rfl, .inl rfl⟩, by simp⟩
  · simp [Value.cells] at hcs
    obtain ⟨rfl, rfl, rfl⟩ := hcs
    have hz : zs.length = cap := by simpa using hz
    refine ⟨_, len, cap, zs.take len, rfl, Nat.le_trans hl hm, ⟨by simp; omega, ?_⟩, fun z hz => hwz z (List.mem_of_mem_take hz)⟩
    by_cases h0 : len = 0
    · exact .inl h0
    obtain ⟨b, off, spot⟩ := x
    have hc0 := hcell 0 (by omega)
    have hspot : spot = none := by simpa [Addr.add] using World.cell?_spot hc0
    subst hspot
    refine .inr ⟨b, off, rfl, fun i v hv => ?_⟩
    rw [List.getElem?_map, List.getElem?_take] at hv
    by_cases hi : i < len
    · rw [if_pos hi] at hv
      have hi2 : i < zs.length := by omega
      have := hcell i hi2
      rw [List.getElem?_eq_getElem hi2] at hv
      simp only [Option.map_some, Option.some.injEq] at hv
      subst hv
      have ea : (⟨b, off, none⟩ : Addr).add i = ⟨b, off + i, none⟩ := by
        unfold Addr.add
        by_cases h0 : i = 0
        · simp [h0]
        · simp [h0]
      rw [ea] at this
      rw [this]
      simp [hi2]
    · rw [if_neg hi] at hv
      simp at hv

end Go.Proofs.Ytfhfjckjmacekaa

/- A row's frame for laws that read package variables of the library: the shape of the first world is handed over. -/
namespace Go.Proofs.Ytfhfjckjmacekaa
open Go.ChangeShapes Go.WideShapes Go.ChangeAt Go.RowKit
theorem returnsInHanded_of_cond_shaped {H : Type} {enc : TypeId × Value → H} {a : Assume} {C : Checked} {os : Os} {f : FuncId} {fn : Func} {s : OpenSpec} {k : (H : Type) → List (DataW H) → Bool} (hk : s.cond = some k) {F : Stop.Interp} {conds : List PathCond} {apart fresh handsOn again : Bool}
    (own : ownKnob C.prog.godebug = none) (started : os.Started) (noInit : C.prog.inits.idxOf? f = none) (hfn : C.prog.funcs[f]? = some fn)
    (witness : ∃ (w : World) (tape : Tape) (i : Input), w.os = os ∧ (w.forCall tape i).Shaped C.prog ∧ i.vars = [] ∧ Input.okWide C.prog (w.forCall tape i) .any w.heap.size f i ∧
      s.pre6 enc C.prog fn conds apart (w.forCall tape i).memory i.args ∧ a.holds C.prog (lone (Frame.enter C.prog f i.args .normal) [] (w.forCall tape i)))
    (contract : ∀ (W : World) (base : Nat) (args : Array Value) (ds gs : List (DataW H)) (before : List MemPlace),
      (∀ (j : Nat) t v, fn.params[j]? = some t → args[j]? = some v → Value.okWide C.prog W .any base t v) →
      DataW.Whole enc C.prog fn.params.toList s.vars apart W args.toList ds gs before →
      conds.all (PathCond.test C.prog ⟨fn.params.toList, ds, s.bare.plain.varTypes C.prog, gs⟩) = true → k H (ds ++ gs) = true →
      W.ShapedOpen C.prog →
      a.holds C.prog (lone (Frame.enter C.prog f args .normal) [] W) →
      Calls C.prog f args W fun e W' => ∃ v, e = .returned v ∧ (s.at F).post enc C.prog fn apart fresh handsOn again W args v W') :
    ReturnsInHanded a C os f .any (s.pre6 enc C.prog fn conds apart) ((s.at F).post enc C.prog fn apart fresh handsOn again) := by
  refine returnsInHanded_of_calls own started noInit witness ?_
  intro w tape i _ hsh _ hok hpre hholds
  obtain ⟨_, _, _, fn', hfn', _, _, _, _, hval⟩ := hok
  have e : fn' = fn := Option.some.inj (hfn'.symm.trans hfn)
  subst e
  obtain ⟨ds, gs, before, hw, hc, hkk⟩ := (OpenSpec.pre_some hk conds apart _ _).1 hpre.1
  refine (contract (w.forCall tape i) w.heap.size i.args ds gs before hval (DataW.Whole.of_heap (w' := w.forCall tape i) (by rfl) hw) hc hkk hsh hholds).mono fun e W' ⟨v, he, hp⟩ => ?_
  subst he
  exact ChangeSpec.post_blind hp
theorem gl_of_shaped {W : World} (h : W.ShapedOpen Try.prog) : Gl (gAll W) := by
  intro p hp
  simp only [globs, List.mem_cons, List.not_mem_nil, or_false] at hp
  subst hp
  obtain ⟨m, hm⟩ := cell_of_shapedOpen_int (P := Try.prog) (g := 0) (t := 3) (zero := #[.int .i64 0]) h (of_decide_eq_true (by kernel_rfl)) (by kernel_rfl) rfl (by kernel_rfl) (by kernel_rfl) Try.underlying3
  obtain ⟨h1, h2⟩ := uAll_lt hm
  exact ⟨h2, h1, m, hm⟩
end Go.Proofs.Ytfhfjckjmacekaa

namespace Go.Proofs.Ytfhfjckjmacekaa.envelopeDomainsMatchSpec
open Go.ChangeShapes Go.WideShapes Go.ChangeAt Go.RowKit
set_option linter.unusedVariables false
set_option maxRecDepth 100000

theorem contract (H : Type) (enc : TypeId × Value → H) (W : World) (base : Nat) (args : Array Value) (ds gs : List (DataW H)) (before : List MemPlace)
    (hval : ∀ (j : Nat) t v, Try.f3.params[j]? = some t → args[j]? = some v → Value.okWide Try.prog W .any base t v)
    (hW : DataW.Whole enc Try.prog Try.f3.params.toList Rows.envelopeDomainsMatchSpecSpec.vars false W args.toList ds gs before) (hk : Rows.uptoSmall H (ds ++ gs) = true) (hgl : Gl (gAll W)) :
    Calls Try.prog 3 args W fun e W' => ∃ v, e = .returned v ∧ Rows.envelopeDomainsMatchSpecSpec.post enc Try.prog Try.f3 false true false false W args v W' := by
  have hW' := hW
  obtain ⟨p, q, hA0, hV, rfl, hfz, hnd⟩ := hW
  have hA : DataW.TrodAll enc Try.prog W 0 (fun _ => true) true Try.f3.params.toList args.toList ds p := hA0
  rw [Try.params3] at hA hval
  obtain ⟨v0, vs0, d0, ds0, p0, q0, hargs, rfl, rfl, h0, r0⟩ := trodAll_cons hA
  obtain ⟨v1, vs1, d1, ds1, p1, q1, rfl, rfl, rfl, h1, r1⟩ := trodAll_cons r0
  obtain ⟨rfl, rfl, rfl⟩ := trodAll_nil r1
  obtain rfl : args = #[v0, v1] := by cases args; simp_all
  obtain ⟨rfl, rfl⟩ := trodVars_none hV
  obtain ⟨a0, e0, o0, k0⟩ := arg_agg op_api_Envelope (by obtain ⟨cs, h, _⟩ := okWide_struct ty_api_Envelope.u (hval 0 _ v0 rfl rfl); exact ⟨cs, h⟩) h0
  obtain ⟨a1, e1, o1, k1⟩ := arg_one op_string (by obtain ⟨_, h⟩ := okWide_string ty_string.u (hval 1 _ v1 rfl rfl); rw [h]; rfl) h1
  have hk2 := of_decide_eq_true hk
  simp only [List.append_nil, Rows.uptoBulkAll] at hk2
  have ht := L_EnvelopeDomainsMatchSpec_true a0 a1 o0 o1 (by (try dsimp only); omega)
  have key : Calls Try.prog 3 #[v0, v1] W fun e W' => e = .returned (.bool true) ∧ Below W.heap.size W W' := calls_of_run (L_EnvelopeDomainsMatchSpec_run a0 a1 true ht) hgl (relArgs_of (.cons e0 (.cons (e1 _ rfl) .nil)))
  refine key.mono fun e W' ⟨he, hb⟩ => ⟨_, he, ?_⟩
  exact post_true laidOut (by kernel_rfl) Try.underlying4 (by kernel_rfl) rfl rfl hW' hb

theorem lifted (os : Os) (started : os.Started) (H : Type) (enc : TypeId × Value → H) (F : Stop.Interp) :
    ReturnsInHanded {} Try.checked os 3 .any ((Rows.OpenSpec.upto Rows.envelopeDomainsMatchSpecSpec).pre6 enc Try.prog Try.f3 Rows.envelopeDomainsMatchSpecUptoRow.domain false) (((Rows.OpenSpec.upto Rows.envelopeDomainsMatchSpecSpec).at F).post enc Try.prog Try.f3 false true false false) := by
  refine returnsInHanded_of_cond_shaped (C := Try.checked) (s := Rows.OpenSpec.upto Rows.envelopeDomainsMatchSpecSpec) (k := Rows.uptoSmall) rfl own started (by kernel_rfl) Try.func3
    (OpenSpec.witness (enc := enc) (C := Try.checked) (s := Rows.OpenSpec.upto Rows.envelopeDomainsMatchSpecSpec) (k := Rows.uptoSmall) rfl false ⟨#[], #[.agg #[.string ⟨#[]⟩, .slice none 0 0, .string ⟨#[]⟩], .string ⟨#[]⟩], []⟩ 8 (by kernel_rfl) (by kernel_rfl) (by kernel_rfl)
      (x := ([.agg [.lit (.string []), .nil, .lit (.string [])], .lit (.string [])], [], [])) (by kernel_rfl) rfl (by kernel_rfl)) ?_
  intro W base args ds gs before hval hW _ hk hsh _
  exact contract H enc W base args ds gs before hval hW hk (gl_of_shaped hsh)

theorem over : Rows.envelopeDomainsMatchSpecUptoRow.holds Try.pinned (Rows.OpenSpec.upto Rows.envelopeDomainsMatchSpecSpec) :=
  OpenClaim.holds_of_cond 3 Try.f3 rfl rfl rfl rfl rfl rfl rfl ⟨rfl, rfl, rfl, rfl, rfl⟩ rfl rfl rfl rfl rfl (by kernel_rfl) Try.func3 (by kernel_rfl)
    (of_decide_eq_true (by kernel_rfl)) (by unfold Func.isWrapper; first | (rw [if_pos (by decide +kernel)]; kernel_rfl) | (rw [if_neg (by decide +kernel)]; exact ⟨rfl, rfl⟩))
    (fun os started H enc _ F => lifted os started H enc F)

theorem proved : Rows.EnvelopeDomainsMatchSpecUptoSaid := over
#print axioms proved
end Go.Proofs.Ytfhfjckjmacekaa.envelopeDomainsMatchSpec
