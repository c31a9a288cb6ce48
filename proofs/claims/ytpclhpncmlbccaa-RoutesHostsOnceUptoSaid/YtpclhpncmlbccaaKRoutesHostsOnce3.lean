/- The law RoutesHostsOnce holds for every input of bulk up to the given bound: it returns true and leaves its arguments as they were. Written by program. -/
import Derived.Test.YtpclhpncmlbccaaKRoutesHostsOnce2
set_option linter.unusedVariables false
set_option linter.unusedSimpArgs false
namespace Go.Proofs.Ytpclhpncmlbccaa
open Go.RowKit
set_option maxRecDepth 100000
set_option maxHeartbeats 40000000
set_option linter.unusedVariables false
private theorem slices_symMergeCmpFunc_api_Route_r0_run (a0 : List TRoute) (a1 : Int) (a2 : Int) (a3 : Int) (r : List TRoute) (hr : slices_symMergeCmpFunc_api_Route_r0 a0 a1 a2 a3 = some r) : RunS Try.prog 43 [.hs 90009000 0, .i a1, .i a2, .i a3, .fn (.func 25) [] []] [(90009000, .row 36 true 3 (List.map TRoute.pc a0))] (.tup []) [(90009000, .row 36 true 3 (List.map TRoute.pc r))] 90009000 [] := by
 unfold slices_symMergeCmpFunc_api_Route_r0 at hr
 obtain ⟨hne, hr⟩ := rowne hr
 refine rfW (fn := Try.f43) (H := 90009999) ⟨Try.func43, rfl, by kernel_rfl⟩ rfl (fun _ => rfl) rfl rfl rfl (hne _) rfl rfl rfl rfl rfl fun g0 hg S sg T => ?_
 refine rn tk 9 rfl ?_
 refine ac 28 hr rfl (fun c1 hr => ?_) (fun c1 hr => ?_)
 ·
  refine rn tk 14 rfl ?_
  refine al1 hr (fun s2 => [(0, .hs 90009000 0), (1, .i a1), (4, .fn (.func 25) [] []), (10, .i s2.1), (11, .i s2.2)]) (fun s2 => [(90009999, .hold (.hs 90009000 0) (T.getD 0 undef)), (90009000, .row 36 true 3 (List.map TRoute.pc a0))]) (.exit 0) (fun b3 => [(0, .hs 90009000 0), (1, .i a1), (10, .i b3)]) (fun b3 => [(90009999, .hold (.hs 90009000 0) (T.getD 0 undef)), (90009000, .row 36 true 3 (List.map TRoute.pc a0))]) rfl rfl (fun s2 x4 hr => ?_) (fun b3 hr => ?_)
  ·
   unfold slices_symMergeCmpFunc_api_Route_r0_l1 at hr
   refine rn tk 8 rfl ?_
   refine ac 33 hr rfl (fun c5 hr => ?_) (fun c5 hr => ?_)
   ·
    refine rn tk 8 rfl ?_
    refine wq (ev_i64u64 rfl ty_int ty_uint) rfl rfl rfl ?_
    refine wq (ev_ushr rfl rfl (by decide)) rfl rfl rfl ?_
    refine wq (ev_u64i64 rfl ty_uint ty_int) rfl rfl rfl ?_
    refine rn tk 4 rfl ?_
    obtain ⟨v6, h7, hr⟩ := bind_some hr
    obtain ⟨v8, h9, hr⟩ := bind_some hr
    obtain ⟨v10, h11, hr⟩ := bind_some hr
    obtain ⟨v12, h13, hr⟩ := bind_some hr
    refine dr 9 [(48, .agg [.s v12.Pattern, .s v12.Host, .i v12.Preference]), (47, .hp 90009000 (Int.toNat a1) 0), (46, .i a1), (45, .hs 90009000 0), (44, .agg [.s v8.Pattern, .s v8.Host, .i v8.Preference]), (43, .hp 90009000 (Int.toNat ((w64 ((uShr ((wu64 ((w64 (s2.1 + s2.2))))) 1))))) 0), (42, .i ((w64 ((uShr ((wu64 ((w64 (s2.1 + s2.2))))) 1))))), (41, .hs 90009000 0), (40, .fn (.func 25) [] [])] mixed (by kernel_rfl) rfl rfl (pq tk rfl (.plain rfl) (pq tk rfl (.plain rfl) (pq tk rfl (.plain rfl) (.run (.plain rfl) (opG_q (ev_hidx (F := TRoute.pc) (l := a0) (n := ((w64 ((uShr ((wu64 ((w64 (s2.1 + s2.2))))) 1))))) rfl rfl rfl ty_s_api_Route ty_api_Route h7)) (.run (.plain rfl) (opG_q (ev_hloadN (F := TRoute.pc) (l := a0) (n := ((w64 ((uShr ((wu64 ((w64 (s2.1 + s2.2))))) 1))))) (j := 0) rfl rfl ty_api_Route rfl h9 rfl)) (pq tk rfl (.plain rfl) (pq tk rfl (.plain rfl) (.run (.plain rfl) (opG_q (ev_hidx (F := TRoute.pc) (l := a0) (n := a1) rfl rfl rfl ty_s_api_Route ty_api_Route h11)) (.run (.plain rfl) (opG_q (ev_hloadN (F := TRoute.pc) (l := a0) (n := a1) (j := 0) rfl rfl ty_api_Route rfl h13 rfl)) .nil))))))))) rfl ?_
    refine il (fn := Try.f25) (args := [.agg [.s v8.Pattern, .s v8.Host, .i v8.Preference], .agg [.s v12.Pattern, .s v12.Host, .i v12.Preference]]) 200000 299999 [(0, .hs 90009000 0), (1, .i a1), (4, .fn (.func 25) [] []), (10, .i s2.1), (11, .i s2.2), (12, .i ((w64 ((uShr ((wu64 ((w64 (s2.1 + s2.2))))) 1)))))] rfl ⟨Try.func25, rfl, by kernel_rfl⟩ rfl rfl rfl fun T2 ds2 => ?_
    refine rn tk 18 rfl ?_
    refine ie tk [.i ((w64 (v8.Preference - v12.Preference)))] [(0, .hs 90009000 0), (1, .i a1), (4, .fn (.func 25) [] []), (10, .i s2.1), (11, .i s2.2), (12, .i ((w64 ((uShr ((wu64 ((w64 (s2.1 + s2.2))))) 1)))))] [(3, .cells [.s v12.Pattern, .s v12.Host, .i v12.Preference]), (2, .cells [.s v8.Pattern, .s v8.Host, .i v8.Preference]), (90009999, .hold (.hs 90009000 0) (T.getD 0 undef)), (90009000, .row 36 true 3 (List.map TRoute.pc a0))] (.inr rfl) rfl rfl rfl rfl (hO ?_)
    refine rn tk 3 rfl ?_
    refine ac 50 hr rfl (fun c14 hr => ?_) (fun c14 hr => ?_)
    ·
     refine rn tk 6 rfl ?_
     cases hr
     exact atc rfl rfl
    ·
     refine rn tk 5 rfl ?_
     cases hr
     exact atc rfl rfl
   ·
    refine rn tk 2 rfl ?_
    cases hr
    exact ato rfl rfl rfl rfl
  ·
   refine rn tk 10 rfl ?_
   refine al1 hr (fun s15 => [(0, .hs 90009000 0), (10, .i b3), (13, .i s15.1)]) (fun s15 => [(90009999, .hold (.hs 90009000 0) (T.getD 0 undef)), (90009000, .row 36 true 3 (List.map TRoute.pc s15.2))]) (.exit 2) (fun b16 => []) (fun b16 => [(90009999, .hold (.hs 90009000 0) (T.getD 0 undef)), (90009000, .row 36 true 3 (List.map TRoute.pc b16))]) rfl rfl (fun s15 x17 hr => ?_) (fun b16 hr => ?_)
   ·
    unfold slices_symMergeCmpFunc_api_Route_r0_l2 at hr
    refine rn tk 9 rfl ?_
    refine ac 58 hr rfl (fun c18 hr => ?_) (fun c18 hr => ?_)
    ·
     refine rn tk 4 rfl ?_
     obtain ⟨v19, h20, hr⟩ := bind_some hr
     obtain ⟨v21, h22, hr⟩ := bind_some hr
     obtain ⟨v23, h24, hr⟩ := bind_some hr
     obtain ⟨v25, h26, hr⟩ := bind_some hr
     obtain ⟨v27, h28, hr⟩ := bind_some hr
     obtain ⟨v29, h30, hr⟩ := bind_some hr
     obtain ⟨v31, h32, hr⟩ := bind_some hr
     obtain ⟨v33, h34, hr⟩ := bind_some hr
     refine mz [some (.hs 90009000 0), some (.i s15.1), some (.hs 90009000 0), some (.i s15.1), some (.i ((w64 (s15.1 + 1)))), some (.hs 90009000 0), some (.i s15.1), some (.i ((w64 (s15.1 + 1)))), some (.hp 90009000 (Int.toNat ((w64 (s15.1 + 1)))) 0), some (.agg [.s v21.Pattern, .s v21.Host, .i v21.Preference]), some (.hs 90009000 0), some (.i s15.1), some (.hp 90009000 (Int.toNat s15.1) 0), some (.agg [.s v25.Pattern, .s v25.Host, .i v25.Preference]), some (.hp 90009000 (Int.toNat s15.1) 0), none, some (.hp 90009000 (Int.toNat ((w64 (s15.1 + 1)))) 0), none] (fun f s => [((bt 18 0), f, s), ((bt 18 32768), f, (Sto.upd s 90009000 (.row 36 true 3 (List.map TRoute.pc ((List.set s15.2 (Int.toNat s15.1) v21)))))), ((bt 18 163840), f, (Sto.upd (Sto.upd s 90009000 (.row 36 true 3 (List.map TRoute.pc ((List.set s15.2 (Int.toNat s15.1) v21))))) 90009000 (.row 36 true 3 (List.map TRoute.pc ((List.set ((List.set s15.2 (Int.toNat s15.1) v21)) (Int.toNat ((w64 (s15.1 + 1)))) v25))))))]) mixed (by kernel_rfl) (.cons (mn tk [8, 9, 12, 13, 14, 15] (by kernel_rfl) (.cons (.pure rfl rfl (opG_q (ev_hidx (F := TRoute.pc) (l := s15.2) (n := ((w64 (s15.1 + 1)))) rfl rfl rfl ty_s_api_Route ty_api_Route h20))) (.cons (.pure rfl rfl (opG_q (ev_hloadN (F := TRoute.pc) (l := s15.2) (n := ((w64 (s15.1 + 1)))) (j := 0) rfl rfl ty_api_Route rfl h22 rfl))) (.cons (.pure rfl rfl (opG_q (ev_hidx (F := TRoute.pc) (l := s15.2) (n := s15.1) rfl rfl rfl ty_s_api_Route ty_api_Route h24))) (.cons (.pure rfl rfl (opG_q (ev_hloadN (F := TRoute.pc) (l := s15.2) (n := s15.1) (j := 0) rfl rfl ty_api_Route rfl h26 rfl))) (.cons (.pure rfl rfl (opG_q (ev_hidx (F := TRoute.pc) (l := s15.2) (n := s15.1) rfl rfl rfl ty_s_api_Route ty_api_Route h28))) (.cons (mst 1 rfl (hv_hstore (F := TRoute.pc) (l := s15.2) (n := s15.1) (j := 0) (v := v29) (v' := v21) (pcs := [pS v21.Pattern, pS v21.Host, pI v21.Preference]) rfl rfl rfl ty_api_Route rfl h30 rfl rfl) (by kernel_rfl)) .nil))))))) (.cons (mn tk [16, 17] (by kernel_rfl) (.cons (.pure rfl rfl (opG_q (ev_hidx (F := TRoute.pc) (l := ((List.set s15.2 (Int.toNat s15.1) v21))) (n := ((w64 (s15.1 + 1)))) rfl rfl rfl ty_s_api_Route ty_api_Route h32))) (.cons (mst 2 rfl (hv_hstore (F := TRoute.pc) (l := ((List.set s15.2 (Int.toNat s15.1) v21))) (n := ((w64 (s15.1 + 1)))) (j := 0) (v := v33) (v' := v25) (pcs := [pS v25.Pattern, pS v25.Host, pI v25.Preference]) rfl rfl rfl ty_api_Route rfl h34 rfl rfl) (by kernel_rfl)) .nil))) (.cons (mf tk [] [(0, .hs 90009000 0), (10, .i b3), (13, .i s15.1)] (by kernel_rfl) .nil (fc rfl (fc rfl (fc rfl fn))) (hA ?_)) .nil)))
     refine rn tk 7 rfl ?_
     cases hr
     exact atc rfl rfl
    ·
     refine rn tk 2 rfl ?_
     cases hr
     exact ato rfl rfl rfl rfl
   ·
    refine rn tk 4 rfl ?_
    cases hr
    exact krS tk (.inr rfl) rfl rfl (stoLe_cons rfl (stoLe_cons rfl stoLe_nil))
 ·
  refine rn tk 11 rfl ?_
  refine ac 80 hr rfl (fun c35 hr => ?_) (fun c35 hr => ?_)
  ·
   refine rn tk 14 rfl ?_
   refine al1 hr (fun s36 => [(0, .hs 90009000 0), (2, .i a2), (4, .fn (.func 25) [] []), (14, .i s36.1), (15, .i s36.2)]) (fun s36 => [(90009999, .hold (.hs 90009000 0) (T.getD 0 undef)), (90009000, .row 36 true 3 (List.map TRoute.pc a0))]) (.exit 4) (fun b37 => [(0, .hs 90009000 0), (2, .i a2), (14, .i b37)]) (fun b37 => [(90009999, .hold (.hs 90009000 0) (T.getD 0 undef)), (90009000, .row 36 true 3 (List.map TRoute.pc a0))]) rfl rfl (fun s36 x38 hr => ?_) (fun b37 hr => ?_)
   ·
    unfold slices_symMergeCmpFunc_api_Route_r0_l3 at hr
    refine rn tk 8 rfl ?_
    refine ac 85 hr rfl (fun c39 hr => ?_) (fun c39 hr => ?_)
    ·
     refine rn tk 8 rfl ?_
     refine wq (ev_i64u64 rfl ty_int ty_uint) rfl rfl rfl ?_
     refine wq (ev_ushr rfl rfl (by decide)) rfl rfl rfl ?_
     refine wq (ev_u64i64 rfl ty_uint ty_int) rfl rfl rfl ?_
     refine rn tk 4 rfl ?_
     obtain ⟨v40, h41, hr⟩ := bind_some hr
     obtain ⟨v42, h43, hr⟩ := bind_some hr
     obtain ⟨v44, h45, hr⟩ := bind_some hr
     obtain ⟨v46, h47, hr⟩ := bind_some hr
     refine dr 9 [(100, .agg [.s v46.Pattern, .s v46.Host, .i v46.Preference]), (99, .hp 90009000 (Int.toNat ((w64 ((uShr ((wu64 ((w64 (s36.1 + s36.2))))) 1))))) 0), (98, .i ((w64 ((uShr ((wu64 ((w64 (s36.1 + s36.2))))) 1))))), (97, .hs 90009000 0), (96, .agg [.s v42.Pattern, .s v42.Host, .i v42.Preference]), (95, .hp 90009000 (Int.toNat a2) 0), (94, .i a2), (93, .hs 90009000 0), (92, .fn (.func 25) [] [])] mixed (by kernel_rfl) rfl rfl (pq tk rfl (.plain rfl) (pq tk rfl (.plain rfl) (pq tk rfl (.plain rfl) (.run (.plain rfl) (opG_q (ev_hidx (F := TRoute.pc) (l := a0) (n := a2) rfl rfl rfl ty_s_api_Route ty_api_Route h41)) (.run (.plain rfl) (opG_q (ev_hloadN (F := TRoute.pc) (l := a0) (n := a2) (j := 0) rfl rfl ty_api_Route rfl h43 rfl)) (pq tk rfl (.plain rfl) (pq tk rfl (.plain rfl) (.run (.plain rfl) (opG_q (ev_hidx (F := TRoute.pc) (l := a0) (n := ((w64 ((uShr ((wu64 ((w64 (s36.1 + s36.2))))) 1))))) rfl rfl rfl ty_s_api_Route ty_api_Route h45)) (.run (.plain rfl) (opG_q (ev_hloadN (F := TRoute.pc) (l := a0) (n := ((w64 ((uShr ((wu64 ((w64 (s36.1 + s36.2))))) 1))))) (j := 0) rfl rfl ty_api_Route rfl h47 rfl)) .nil))))))))) rfl ?_
     refine il (fn := Try.f25) (args := [.agg [.s v42.Pattern, .s v42.Host, .i v42.Preference], .agg [.s v46.Pattern, .s v46.Host, .i v46.Preference]]) 400000 499999 [(0, .hs 90009000 0), (2, .i a2), (4, .fn (.func 25) [] []), (14, .i s36.1), (15, .i s36.2), (16, .i ((w64 ((uShr ((wu64 ((w64 (s36.1 + s36.2))))) 1)))))] rfl ⟨Try.func25, rfl, by kernel_rfl⟩ rfl rfl rfl fun T4 ds4 => ?_
     refine rn tk 18 rfl ?_
     refine ie tk [.i ((w64 (v42.Preference - v46.Preference)))] [(0, .hs 90009000 0), (2, .i a2), (4, .fn (.func 25) [] []), (14, .i s36.1), (15, .i s36.2), (16, .i ((w64 ((uShr ((wu64 ((w64 (s36.1 + s36.2))))) 1)))))] [(3, .cells [.s v46.Pattern, .s v46.Host, .i v46.Preference]), (2, .cells [.s v42.Pattern, .s v42.Host, .i v42.Preference]), (90009999, .hold (.hs 90009000 0) (T.getD 0 undef)), (90009000, .row 36 true 3 (List.map TRoute.pc a0))] (.inr rfl) rfl rfl rfl rfl (hO ?_)
     refine rn tk 4 rfl ?_
     refine ac 103 hr rfl (fun c48 hr => ?_) (fun c48 hr => ?_)
     ·
      refine rn tk 6 rfl ?_
      cases hr
      exact atc rfl rfl
     ·
      refine rn tk 5 rfl ?_
      cases hr
      exact atc rfl rfl
    ·
     refine rn tk 2 rfl ?_
     cases hr
     exact ato rfl rfl rfl rfl
   ·
    refine rn tk 10 rfl ?_
    refine al1 hr (fun s49 => [(0, .hs 90009000 0), (14, .i b37), (17, .i s49.1)]) (fun s49 => [(90009999, .hold (.hs 90009000 0) (T.getD 0 undef)), (90009000, .row 36 true 3 (List.map TRoute.pc s49.2))]) (.exit 6) (fun b50 => []) (fun b50 => [(90009999, .hold (.hs 90009000 0) (T.getD 0 undef)), (90009000, .row 36 true 3 (List.map TRoute.pc b50))]) rfl rfl (fun s49 x51 hr => ?_) (fun b50 hr => ?_)
    ·
     unfold slices_symMergeCmpFunc_api_Route_r0_l4 at hr
     refine rn tk 8 rfl ?_
     refine ac 110 hr rfl (fun c52 hr => ?_) (fun c52 hr => ?_)
     ·
      refine rn tk 4 rfl ?_
      obtain ⟨v53, h54, hr⟩ := bind_some hr
      obtain ⟨v55, h56, hr⟩ := bind_some hr
      obtain ⟨v57, h58, hr⟩ := bind_some hr
      obtain ⟨v59, h60, hr⟩ := bind_some hr
      obtain ⟨v61, h62, hr⟩ := bind_some hr
      obtain ⟨v63, h64, hr⟩ := bind_some hr
      obtain ⟨v65, h66, hr⟩ := bind_some hr
      obtain ⟨v67, h68, hr⟩ := bind_some hr
      refine mz [some (.hs 90009000 0), some (.i s49.1), some (.hs 90009000 0), some (.i s49.1), some (.i ((w64 (s49.1 - 1)))), some (.hs 90009000 0), some (.i s49.1), some (.i ((w64 (s49.1 - 1)))), some (.hp 90009000 (Int.toNat ((w64 (s49.1 - 1)))) 0), some (.agg [.s v55.Pattern, .s v55.Host, .i v55.Preference]), some (.hs 90009000 0), some (.i s49.1), some (.hp 90009000 (Int.toNat s49.1) 0), some (.agg [.s v59.Pattern, .s v59.Host, .i v59.Preference]), some (.hp 90009000 (Int.toNat s49.1) 0), none, some (.hp 90009000 (Int.toNat ((w64 (s49.1 - 1)))) 0), none] (fun f s => [((bt 18 0), f, s), ((bt 18 32768), f, (Sto.upd s 90009000 (.row 36 true 3 (List.map TRoute.pc ((List.set s49.2 (Int.toNat s49.1) v55)))))), ((bt 18 163840), f, (Sto.upd (Sto.upd s 90009000 (.row 36 true 3 (List.map TRoute.pc ((List.set s49.2 (Int.toNat s49.1) v55))))) 90009000 (.row 36 true 3 (List.map TRoute.pc ((List.set ((List.set s49.2 (Int.toNat s49.1) v55)) (Int.toNat ((w64 (s49.1 - 1)))) v59))))))]) mixed (by kernel_rfl) (.cons (mn tk [8, 9, 12, 13, 14, 15] (by kernel_rfl) (.cons (.pure rfl rfl (opG_q (ev_hidx (F := TRoute.pc) (l := s49.2) (n := ((w64 (s49.1 - 1)))) rfl rfl rfl ty_s_api_Route ty_api_Route h54))) (.cons (.pure rfl rfl (opG_q (ev_hloadN (F := TRoute.pc) (l := s49.2) (n := ((w64 (s49.1 - 1)))) (j := 0) rfl rfl ty_api_Route rfl h56 rfl))) (.cons (.pure rfl rfl (opG_q (ev_hidx (F := TRoute.pc) (l := s49.2) (n := s49.1) rfl rfl rfl ty_s_api_Route ty_api_Route h58))) (.cons (.pure rfl rfl (opG_q (ev_hloadN (F := TRoute.pc) (l := s49.2) (n := s49.1) (j := 0) rfl rfl ty_api_Route rfl h60 rfl))) (.cons (.pure rfl rfl (opG_q (ev_hidx (F := TRoute.pc) (l := s49.2) (n := s49.1) rfl rfl rfl ty_s_api_Route ty_api_Route h62))) (.cons (mst 1 rfl (hv_hstore (F := TRoute.pc) (l := s49.2) (n := s49.1) (j := 0) (v := v63) (v' := v55) (pcs := [pS v55.Pattern, pS v55.Host, pI v55.Preference]) rfl rfl rfl ty_api_Route rfl h64 rfl rfl) (by kernel_rfl)) .nil))))))) (.cons (mn tk [16, 17] (by kernel_rfl) (.cons (.pure rfl rfl (opG_q (ev_hidx (F := TRoute.pc) (l := ((List.set s49.2 (Int.toNat s49.1) v55))) (n := ((w64 (s49.1 - 1)))) rfl rfl rfl ty_s_api_Route ty_api_Route h66))) (.cons (mst 2 rfl (hv_hstore (F := TRoute.pc) (l := ((List.set s49.2 (Int.toNat s49.1) v55))) (n := ((w64 (s49.1 - 1)))) (j := 0) (v := v67) (v' := v59) (pcs := [pS v59.Pattern, pS v59.Host, pI v59.Preference]) rfl rfl rfl ty_api_Route rfl h68 rfl rfl) (by kernel_rfl)) .nil))) (.cons (mf tk [] [(0, .hs 90009000 0), (14, .i b37), (17, .i s49.1)] (by kernel_rfl) .nil (fc rfl (fc rfl (fc rfl fn))) (hA ?_)) .nil)))
      refine rn tk 7 rfl ?_
      cases hr
      exact atc rfl rfl
     ·
      refine rn tk 2 rfl ?_
      cases hr
      exact ato rfl rfl rfl rfl
    ·
     refine rn tk 4 rfl ?_
     cases hr
     exact krS tk (.inr rfl) rfl rfl (stoLe_cons rfl (stoLe_cons rfl stoLe_nil))
  ·
   refine rn tk 7 rfl ?_
   refine wq (ev_i64u64 rfl ty_int ty_uint) rfl rfl rfl ?_
   refine wq (ev_ushr rfl rfl (by decide)) rfl rfl rfl ?_
   refine wq (ev_u64i64 rfl ty_uint ty_int) rfl rfl rfl ?_
   refine rn tk 17 rfl ?_
   refine jb hr (fun j69 => [(0, .hs 90009000 0), (1, .i a1), (2, .i a2), (3, .i a3), (4, .fn (.func 25) [] []), (18, .i j69.1), (19, .i j69.2.1), (20, .i j69.2.2.1), (21, .i j69.2.2.2)]) (fun j69 => [(90009999, .hold (.hs 90009000 0) (T.getD 0 undef)), (90009000, .row 36 true 3 (List.map TRoute.pc a0))]) (fun j69 hr => ?_) (fun j69 hr => ?_)
   ·
    refine rn tk 7 rfl ?_
    refine ac 140 hr rfl (fun c70 hr => ?_) (fun c70 hr => ?_)
    ·
     refine rn tk 12 rfl ?_
     cases hr
     exact jn _ rfl rfl rfl
    ·
     refine rn tk 10 rfl ?_
     cases hr
     exact jn _ rfl rfl rfl
   ·
    refine rn tk 9 rfl ?_
    refine al1 hr (fun s71 => [(0, .hs 90009000 0), (1, .i a1), (2, .i a2), (3, .i a3), (4, .fn (.func 25) [] []), (18, .i j69.1), (19, .i j69.2.1), (20, .i s71.1), (21, .i s71.2), (22, .i ((w64 (j69.2.1 - 1))))]) (fun s71 => [(90009999, .hold (.hs 90009000 0) (T.getD 0 undef)), (90009000, .row 36 true 3 (List.map TRoute.pc a0))]) (.exit 8) (fun b72 => [(0, .hs 90009000 0), (1, .i a1), (2, .i a2), (3, .i a3), (4, .fn (.func 25) [] []), (18, .i j69.1), (19, .i j69.2.1), (20, .i b72)]) (fun b72 => [(90009999, .hold (.hs 90009000 0) (T.getD 0 undef)), (90009000, .row 36 true 3 (List.map TRoute.pc a0))]) rfl rfl (fun s71 x73 hr => ?_) (fun b72 hr => ?_)
    ·
     unfold slices_symMergeCmpFunc_api_Route_r0_l5 at hr
     refine rn tk 8 rfl ?_
     refine ac 151 hr rfl (fun c74 hr => ?_) (fun c74 hr => ?_)
     ·
      refine rn tk 8 rfl ?_
      refine wq (ev_i64u64 rfl ty_int ty_uint) rfl rfl rfl ?_
      refine wq (ev_ushr rfl rfl (by decide)) rfl rfl rfl ?_
      refine wq (ev_u64i64 rfl ty_uint ty_int) rfl rfl rfl ?_
      refine rn tk 4 rfl ?_
      obtain ⟨v75, h76, hr⟩ := bind_some hr
      obtain ⟨v77, h78, hr⟩ := bind_some hr
      obtain ⟨v79, h80, hr⟩ := bind_some hr
      obtain ⟨v81, h82, hr⟩ := bind_some hr
      refine dr 11 [(168, .agg [.s v81.Pattern, .s v81.Host, .i v81.Preference]), (167, .hp 90009000 (Int.toNat ((w64 ((uShr ((wu64 ((w64 (s71.1 + s71.2))))) 1))))) 0), (166, .i ((w64 ((uShr ((wu64 ((w64 (s71.1 + s71.2))))) 1))))), (165, .hs 90009000 0), (164, .agg [.s v77.Pattern, .s v77.Host, .i v77.Preference]), (163, .hp 90009000 (Int.toNat ((w64 ((w64 (j69.2.1 - 1)) - (w64 ((uShr ((wu64 ((w64 (s71.1 + s71.2))))) 1))))))) 0), (162, .i ((w64 ((w64 (j69.2.1 - 1)) - (w64 ((uShr ((wu64 ((w64 (s71.1 + s71.2))))) 1))))))), (161, .i ((w64 ((uShr ((wu64 ((w64 (s71.1 + s71.2))))) 1))))), (160, .i ((w64 (j69.2.1 - 1)))), (159, .hs 90009000 0), (158, .fn (.func 25) [] [])] mixed (by kernel_rfl) rfl rfl (pq tk rfl (.plain rfl) (pq tk rfl (.plain rfl) (pq tk rfl (.plain rfl) (pq tk rfl (.plain rfl) (pq tk rfl (.plain rfl) (.run (.plain rfl) (opG_q (ev_hidx (F := TRoute.pc) (l := a0) (n := ((w64 ((w64 (j69.2.1 - 1)) - (w64 ((uShr ((wu64 ((w64 (s71.1 + s71.2))))) 1))))))) rfl rfl rfl ty_s_api_Route ty_api_Route h76)) (.run (.plain rfl) (opG_q (ev_hloadN (F := TRoute.pc) (l := a0) (n := ((w64 ((w64 (j69.2.1 - 1)) - (w64 ((uShr ((wu64 ((w64 (s71.1 + s71.2))))) 1))))))) (j := 0) rfl rfl ty_api_Route rfl h78 rfl)) (pq tk rfl (.plain rfl) (pq tk rfl (.plain rfl) (.run (.plain rfl) (opG_q (ev_hidx (F := TRoute.pc) (l := a0) (n := ((w64 ((uShr ((wu64 ((w64 (s71.1 + s71.2))))) 1))))) rfl rfl rfl ty_s_api_Route ty_api_Route h80)) (.run (.plain rfl) (opG_q (ev_hloadN (F := TRoute.pc) (l := a0) (n := ((w64 ((uShr ((wu64 ((w64 (s71.1 + s71.2))))) 1))))) (j := 0) rfl rfl ty_api_Route rfl h82 rfl)) .nil))))))))))) rfl ?_
      refine il (fn := Try.f25) (args := [.agg [.s v77.Pattern, .s v77.Host, .i v77.Preference], .agg [.s v81.Pattern, .s v81.Host, .i v81.Preference]]) 600000 699999 [(0, .hs 90009000 0), (1, .i a1), (2, .i a2), (3, .i a3), (4, .fn (.func 25) [] []), (18, .i j69.1), (19, .i j69.2.1), (20, .i s71.1), (21, .i s71.2), (22, .i ((w64 (j69.2.1 - 1)))), (23, .i ((w64 ((uShr ((wu64 ((w64 (s71.1 + s71.2))))) 1)))))] rfl ⟨Try.func25, rfl, by kernel_rfl⟩ rfl rfl rfl fun T6 ds6 => ?_
      refine rn tk 18 rfl ?_
      refine ie tk [.i ((w64 (v77.Preference - v81.Preference)))] [(0, .hs 90009000 0), (1, .i a1), (2, .i a2), (3, .i a3), (4, .fn (.func 25) [] []), (18, .i j69.1), (19, .i j69.2.1), (20, .i s71.1), (21, .i s71.2), (22, .i ((w64 (j69.2.1 - 1)))), (23, .i ((w64 ((uShr ((wu64 ((w64 (s71.1 + s71.2))))) 1)))))] [(3, .cells [.s v81.Pattern, .s v81.Host, .i v81.Preference]), (2, .cells [.s v77.Pattern, .s v77.Host, .i v77.Preference]), (90009999, .hold (.hs 90009000 0) (T.getD 0 undef)), (90009000, .row 36 true 3 (List.map TRoute.pc a0))] (.inr rfl) rfl rfl rfl rfl (hO ?_)
      refine rn tk 4 rfl ?_
      refine ac 171 hr rfl (fun c83 hr => ?_) (fun c83 hr => ?_)
      ·
       refine rn tk 6 rfl ?_
       cases hr
       exact atc rfl rfl
      ·
       refine rn tk 5 rfl ?_
       cases hr
       exact atc rfl rfl
     ·
      refine rn tk 2 rfl ?_
      cases hr
      exact ato rfl rfl rfl rfl
    ·
     refine rn tk 10 rfl ?_
     refine jb hr (fun j84 => [(0, .hs 90009000 0), (1, .i a1), (3, .i a3), (4, .fn (.func 25) [] []), (18, .i j69.1), (20, .i b72), (24, .i j84.1)]) (fun j84 => [(90009000, .row 36 true 3 (List.map TRoute.pc j84.2)), (90009999, .hold (.hs 90009000 0) (T.getD 0 undef))]) (fun j84 hr => ?_) (fun j84 hr => ?_)
     ·
      refine jb hr (fun j85 => [(0, .hs 90009000 0), (1, .i a1), (2, .i a2), (3, .i a3), (4, .fn (.func 25) [] []), (18, .i j69.1), (20, .i b72), (24, .i j85.1), (185, .bo j85.2)]) (fun j85 => [(90009999, .hold (.hs 90009000 0) (T.getD 0 undef)), (90009000, .row 36 true 3 (List.map TRoute.pc a0))]) (fun j85 hr => ?_) (fun j85 hr => ?_)
      ·
       refine rn tk 5 rfl ?_
       refine bs 181 hr rfl (fun c86 hr => ?_) (fun c86 hr => ?_)
       ·
        refine rn tk 5 rfl ?_
        cases hr
        exact jn _ rfl rfl rfl
       ·
        refine rn tk 5 rfl ?_
        cases hr
        exact jn _ rfl rfl rfl
      ·
       refine ac 185 hr rfl (fun c87 hr => ?_) (fun c87 hr => ?_)
       ·
        refine rn tk 6 rfl ?_
        obtain ⟨v88, h89, hr⟩ := bind_some hr
        refine wo (opTo_callS (k := 191) (slices_rotateCmpFunc_api_Route_run a0 b72 a2 j85.1 v88 h89) rfl rfl (stoLe_cons rfl stoLe_nil)) rfl ?_
        refine rn tk 1 rfl ?_
        cases hr
        exact jn _ rfl rfl rfl
       ·
        refine rn tk 1 rfl ?_
        cases hr
        exact jn _ rfl rfl rfl
     ·
      refine rn tk 1 rfl ?_
      refine jb hr (fun j90 => [(0, .hs 90009000 0), (1, .i a1), (3, .i a3), (4, .fn (.func 25) [] []), (18, .i j69.1), (20, .i b72), (24, .i j84.1), (199, .bo j90)]) (fun j90 => [(90009000, .row 36 true 3 (List.map TRoute.pc j84.2)), (90009999, .hold (.hs 90009000 0) (T.getD 0 undef))]) (fun j90 hr => ?_) (fun j90 hr => ?_)
      ·
       refine rn tk 5 rfl ?_
       refine bs 195 hr rfl (fun c91 hr => ?_) (fun c91 hr => ?_)
       ·
        refine rn tk 5 rfl ?_
        cases hr
        exact jn _ rfl rfl rfl
       ·
        refine rn tk 5 rfl ?_
        cases hr
        exact jn _ rfl rfl rfl
      ·
       refine ac 199 hr rfl (fun c92 hr => ?_) (fun c92 hr => ?_)
       ·
        refine rn tk 6 rfl ?_
        cases hr
       ·
        refine rn tk 2 rfl ?_
        refine jb hr (fun j93 => [(0, .hs 90009000 0), (3, .i a3), (4, .fn (.func 25) [] []), (18, .i j69.1), (24, .i j84.1), (213, .bo j93)]) (fun j93 => [(90009000, .row 36 true 3 (List.map TRoute.pc j84.2)), (90009999, .hold (.hs 90009000 0) (T.getD 0 undef))]) (fun j93 hr => ?_) (fun j93 hr => ?_)
        ·
         refine rn tk 5 rfl ?_
         refine bs 209 hr rfl (fun c94 hr => ?_) (fun c94 hr => ?_)
         ·
          refine rn tk 5 rfl ?_
          cases hr
          exact jn _ rfl rfl rfl
         ·
          refine rn tk 5 rfl ?_
          cases hr
          exact jn _ rfl rfl rfl
        ·
         refine ac 213 hr rfl (fun c95 hr => ?_) (fun c95 hr => ?_)
         ·
          refine rn tk 6 rfl ?_
          cases hr
         ·
          refine rn tk 1 rfl ?_
          cases hr
          exact krS tk (.inl rfl) rfl rfl (stoLe_cons rfl (stoLe_cons rfl stoLe_nil))
private theorem slices_symMergeCmpFunc_api_Route_r1_run (a0 : List TRoute) (a1 : Int) (a2 : Int) (a3 : Int) (r : List TRoute) (hr : slices_symMergeCmpFunc_api_Route_r1 a0 a1 a2 a3 = some r) : RunS Try.prog 43 [.hs 90009000 0, .i a1, .i a2, .i a3, .fn (.func 25) [] []] [(90009000, .row 36 true 3 (List.map TRoute.pc a0))] (.tup []) [(90009000, .row 36 true 3 (List.map TRoute.pc r))] 90009000 [] := by
 unfold slices_symMergeCmpFunc_api_Route_r1 at hr
 obtain ⟨hne, hr⟩ := rowne hr
 refine rfW (fn := Try.f43) (H := 90009999) ⟨Try.func43, rfl, by kernel_rfl⟩ rfl (fun _ => rfl) rfl rfl rfl (hne _) rfl rfl rfl rfl rfl fun g0 hg S sg T => ?_
 refine rn tk 9 rfl ?_
 refine ac 28 hr rfl (fun c1 hr => ?_) (fun c1 hr => ?_)
 ·
  refine rn tk 14 rfl ?_
  refine al1 hr (fun s2 => [(0, .hs 90009000 0), (1, .i a1), (4, .fn (.func 25) [] []), (10, .i s2.1), (11, .i s2.2)]) (fun s2 => [(90009999, .hold (.hs 90009000 0) (T.getD 0 undef)), (90009000, .row 36 true 3 (List.map TRoute.pc a0))]) (.exit 0) (fun b3 => [(0, .hs 90009000 0), (1, .i a1), (10, .i b3)]) (fun b3 => [(90009999, .hold (.hs 90009000 0) (T.getD 0 undef)), (90009000, .row 36 true 3 (List.map TRoute.pc a0))]) rfl rfl (fun s2 x4 hr => ?_) (fun b3 hr => ?_)
  ·
   unfold slices_symMergeCmpFunc_api_Route_r1_l1 at hr
   refine rn tk 8 rfl ?_
   refine ac 33 hr rfl (fun c5 hr => ?_) (fun c5 hr => ?_)
   ·
    refine rn tk 8 rfl ?_
    refine wq (ev_i64u64 rfl ty_int ty_uint) rfl rfl rfl ?_
    refine wq (ev_ushr rfl rfl (by decide)) rfl rfl rfl ?_
    refine wq (ev_u64i64 rfl ty_uint ty_int) rfl rfl rfl ?_
    refine rn tk 4 rfl ?_
    obtain ⟨v6, h7, hr⟩ := bind_some hr
    obtain ⟨v8, h9, hr⟩ := bind_some hr
    obtain ⟨v10, h11, hr⟩ := bind_some hr
    obtain ⟨v12, h13, hr⟩ := bind_some hr
    refine dr 9 [(48, .agg [.s v12.Pattern, .s v12.Host, .i v12.Preference]), (47, .hp 90009000 (Int.toNat a1) 0), (46, .i a1), (45, .hs 90009000 0), (44, .agg [.s v8.Pattern, .s v8.Host, .i v8.Preference]), (43, .hp 90009000 (Int.toNat ((w64 ((uShr ((wu64 ((w64 (s2.1 + s2.2))))) 1))))) 0), (42, .i ((w64 ((uShr ((wu64 ((w64 (s2.1 + s2.2))))) 1))))), (41, .hs 90009000 0), (40, .fn (.func 25) [] [])] mixed (by kernel_rfl) rfl rfl (pq tk rfl (.plain rfl) (pq tk rfl (.plain rfl) (pq tk rfl (.plain rfl) (.run (.plain rfl) (opG_q (ev_hidx (F := TRoute.pc) (l := a0) (n := ((w64 ((uShr ((wu64 ((w64 (s2.1 + s2.2))))) 1))))) rfl rfl rfl ty_s_api_Route ty_api_Route h7)) (.run (.plain rfl) (opG_q (ev_hloadN (F := TRoute.pc) (l := a0) (n := ((w64 ((uShr ((wu64 ((w64 (s2.1 + s2.2))))) 1))))) (j := 0) rfl rfl ty_api_Route rfl h9 rfl)) (pq tk rfl (.plain rfl) (pq tk rfl (.plain rfl) (.run (.plain rfl) (opG_q (ev_hidx (F := TRoute.pc) (l := a0) (n := a1) rfl rfl rfl ty_s_api_Route ty_api_Route h11)) (.run (.plain rfl) (opG_q (ev_hloadN (F := TRoute.pc) (l := a0) (n := a1) (j := 0) rfl rfl ty_api_Route rfl h13 rfl)) .nil))))))))) rfl ?_
    refine il (fn := Try.f25) (args := [.agg [.s v8.Pattern, .s v8.Host, .i v8.Preference], .agg [.s v12.Pattern, .s v12.Host, .i v12.Preference]]) 200000 299999 [(0, .hs 90009000 0), (1, .i a1), (4, .fn (.func 25) [] []), (10, .i s2.1), (11, .i s2.2), (12, .i ((w64 ((uShr ((wu64 ((w64 (s2.1 + s2.2))))) 1)))))] rfl ⟨Try.func25, rfl, by kernel_rfl⟩ rfl rfl rfl fun T2 ds2 => ?_
    refine rn tk 18 rfl ?_
    refine ie tk [.i ((w64 (v8.Preference - v12.Preference)))] [(0, .hs 90009000 0), (1, .i a1), (4, .fn (.func 25) [] []), (10, .i s2.1), (11, .i s2.2), (12, .i ((w64 ((uShr ((wu64 ((w64 (s2.1 + s2.2))))) 1)))))] [(3, .cells [.s v12.Pattern, .s v12.Host, .i v12.Preference]), (2, .cells [.s v8.Pattern, .s v8.Host, .i v8.Preference]), (90009999, .hold (.hs 90009000 0) (T.getD 0 undef)), (90009000, .row 36 true 3 (List.map TRoute.pc a0))] (.inr rfl) rfl rfl rfl rfl (hO ?_)
    refine rn tk 3 rfl ?_
    refine ac 50 hr rfl (fun c14 hr => ?_) (fun c14 hr => ?_)
    ·
     refine rn tk 6 rfl ?_
     cases hr
     exact atc rfl rfl
    ·
     refine rn tk 5 rfl ?_
     cases hr
     exact atc rfl rfl
   ·
    refine rn tk 2 rfl ?_
    cases hr
    exact ato rfl rfl rfl rfl
  ·
   refine rn tk 10 rfl ?_
   refine al1 hr (fun s15 => [(0, .hs 90009000 0), (10, .i b3), (13, .i s15.1)]) (fun s15 => [(90009999, .hold (.hs 90009000 0) (T.getD 0 undef)), (90009000, .row 36 true 3 (List.map TRoute.pc s15.2))]) (.exit 2) (fun b16 => []) (fun b16 => [(90009999, .hold (.hs 90009000 0) (T.getD 0 undef)), (90009000, .row 36 true 3 (List.map TRoute.pc b16))]) rfl rfl (fun s15 x17 hr => ?_) (fun b16 hr => ?_)
   ·
    unfold slices_symMergeCmpFunc_api_Route_r1_l2 at hr
    refine rn tk 9 rfl ?_
    refine ac 58 hr rfl (fun c18 hr => ?_) (fun c18 hr => ?_)
    ·
     refine rn tk 4 rfl ?_
     obtain ⟨v19, h20, hr⟩ := bind_some hr
     obtain ⟨v21, h22, hr⟩ := bind_some hr
     obtain ⟨v23, h24, hr⟩ := bind_some hr
     obtain ⟨v25, h26, hr⟩ := bind_some hr
     obtain ⟨v27, h28, hr⟩ := bind_some hr
     obtain ⟨v29, h30, hr⟩ := bind_some hr
     obtain ⟨v31, h32, hr⟩ := bind_some hr
     obtain ⟨v33, h34, hr⟩ := bind_some hr
     refine mz [some (.hs 90009000 0), some (.i s15.1), some (.hs 90009000 0), some (.i s15.1), some (.i ((w64 (s15.1 + 1)))), some (.hs 90009000 0), some (.i s15.1), some (.i ((w64 (s15.1 + 1)))), some (.hp 90009000 (Int.toNat ((w64 (s15.1 + 1)))) 0), some (.agg [.s v21.Pattern, .s v21.Host, .i v21.Preference]), some (.hs 90009000 0), some (.i s15.1), some (.hp 90009000 (Int.toNat s15.1) 0), some (.agg [.s v25.Pattern, .s v25.Host, .i v25.Preference]), some (.hp 90009000 (Int.toNat s15.1) 0), none, some (.hp 90009000 (Int.toNat ((w64 (s15.1 + 1)))) 0), none] (fun f s => [((bt 18 0), f, s), ((bt 18 32768), f, (Sto.upd s 90009000 (.row 36 true 3 (List.map TRoute.pc ((List.set s15.2 (Int.toNat s15.1) v21)))))), ((bt 18 163840), f, (Sto.upd (Sto.upd s 90009000 (.row 36 true 3 (List.map TRoute.pc ((List.set s15.2 (Int.toNat s15.1) v21))))) 90009000 (.row 36 true 3 (List.map TRoute.pc ((List.set ((List.set s15.2 (Int.toNat s15.1) v21)) (Int.toNat ((w64 (s15.1 + 1)))) v25))))))]) mixed (by kernel_rfl) (.cons (mn tk [8, 9, 12, 13, 14, 15] (by kernel_rfl) (.cons (.pure rfl rfl (opG_q (ev_hidx (F := TRoute.pc) (l := s15.2) (n := ((w64 (s15.1 + 1)))) rfl rfl rfl ty_s_api_Route ty_api_Route h20))) (.cons (.pure rfl rfl (opG_q (ev_hloadN (F := TRoute.pc) (l := s15.2) (n := ((w64 (s15.1 + 1)))) (j := 0) rfl rfl ty_api_Route rfl h22 rfl))) (.cons (.pure rfl rfl (opG_q (ev_hidx (F := TRoute.pc) (l := s15.2) (n := s15.1) rfl rfl rfl ty_s_api_Route ty_api_Route h24))) (.cons (.pure rfl rfl (opG_q (ev_hloadN (F := TRoute.pc) (l := s15.2) (n := s15.1) (j := 0) rfl rfl ty_api_Route rfl h26 rfl))) (.cons (.pure rfl rfl (opG_q (ev_hidx (F := TRoute.pc) (l := s15.2) (n := s15.1) rfl rfl rfl ty_s_api_Route ty_api_Route h28))) (.cons (mst 1 rfl (hv_hstore (F := TRoute.pc) (l := s15.2) (n := s15.1) (j := 0) (v := v29) (v' := v21) (pcs := [pS v21.Pattern, pS v21.Host, pI v21.Preference]) rfl rfl rfl ty_api_Route rfl h30 rfl rfl) (by kernel_rfl)) .nil))))))) (.cons (mn tk [16, 17] (by kernel_rfl) (.cons (.pure rfl rfl (opG_q (ev_hidx (F := TRoute.pc) (l := ((List.set s15.2 (Int.toNat s15.1) v21))) (n := ((w64 (s15.1 + 1)))) rfl rfl rfl ty_s_api_Route ty_api_Route h32))) (.cons (mst 2 rfl (hv_hstore (F := TRoute.pc) (l := ((List.set s15.2 (Int.toNat s15.1) v21))) (n := ((w64 (s15.1 + 1)))) (j := 0) (v := v33) (v' := v25) (pcs := [pS v25.Pattern, pS v25.Host, pI v25.Preference]) rfl rfl rfl ty_api_Route rfl h34 rfl rfl) (by kernel_rfl)) .nil))) (.cons (mf tk [] [(0, .hs 90009000 0), (10, .i b3), (13, .i s15.1)] (by kernel_rfl) .nil (fc rfl (fc rfl (fc rfl fn))) (hA ?_)) .nil)))
     refine rn tk 7 rfl ?_
     cases hr
     exact atc rfl rfl
    ·
     refine rn tk 2 rfl ?_
     cases hr
     exact ato rfl rfl rfl rfl
   ·
    refine rn tk 4 rfl ?_
    cases hr
    exact krS tk (.inr rfl) rfl rfl (stoLe_cons rfl (stoLe_cons rfl stoLe_nil))
 ·
  refine rn tk 11 rfl ?_
  refine ac 80 hr rfl (fun c35 hr => ?_) (fun c35 hr => ?_)
  ·
   refine rn tk 14 rfl ?_
   refine al1 hr (fun s36 => [(0, .hs 90009000 0), (2, .i a2), (4, .fn (.func 25) [] []), (14, .i s36.1), (15, .i s36.2)]) (fun s36 => [(90009999, .hold (.hs 90009000 0) (T.getD 0 undef)), (90009000, .row 36 true 3 (List.map TRoute.pc a0))]) (.exit 4) (fun b37 => [(0, .hs 90009000 0), (2, .i a2), (14, .i b37)]) (fun b37 => [(90009999, .hold (.hs 90009000 0) (T.getD 0 undef)), (90009000, .row 36 true 3 (List.map TRoute.pc a0))]) rfl rfl (fun s36 x38 hr => ?_) (fun b37 hr => ?_)
   ·
    unfold slices_symMergeCmpFunc_api_Route_r1_l3 at hr
    refine rn tk 8 rfl ?_
    refine ac 85 hr rfl (fun c39 hr => ?_) (fun c39 hr => ?_)
    ·
     refine rn tk 8 rfl ?_
     refine wq (ev_i64u64 rfl ty_int ty_uint) rfl rfl rfl ?_
     refine wq (ev_ushr rfl rfl (by decide)) rfl rfl rfl ?_
     refine wq (ev_u64i64 rfl ty_uint ty_int) rfl rfl rfl ?_
     refine rn tk 4 rfl ?_
     obtain ⟨v40, h41, hr⟩ := bind_some hr
     obtain ⟨v42, h43, hr⟩ := bind_some hr
     obtain ⟨v44, h45, hr⟩ := bind_some hr
     obtain ⟨v46, h47, hr⟩ := bind_some hr
     refine dr 9 [(100, .agg [.s v46.Pattern, .s v46.Host, .i v46.Preference]), (99, .hp 90009000 (Int.toNat ((w64 ((uShr ((wu64 ((w64 (s36.1 + s36.2))))) 1))))) 0), (98, .i ((w64 ((uShr ((wu64 ((w64 (s36.1 + s36.2))))) 1))))), (97, .hs 90009000 0), (96, .agg [.s v42.Pattern, .s v42.Host, .i v42.Preference]), (95, .hp 90009000 (Int.toNat a2) 0), (94, .i a2), (93, .hs 90009000 0), (92, .fn (.func 25) [] [])] mixed (by kernel_rfl) rfl rfl (pq tk rfl (.plain rfl) (pq tk rfl (.plain rfl) (pq tk rfl (.plain rfl) (.run (.plain rfl) (opG_q (ev_hidx (F := TRoute.pc) (l := a0) (n := a2) rfl rfl rfl ty_s_api_Route ty_api_Route h41)) (.run (.plain rfl) (opG_q (ev_hloadN (F := TRoute.pc) (l := a0) (n := a2) (j := 0) rfl rfl ty_api_Route rfl h43 rfl)) (pq tk rfl (.plain rfl) (pq tk rfl (.plain rfl) (.run (.plain rfl) (opG_q (ev_hidx (F := TRoute.pc) (l := a0) (n := ((w64 ((uShr ((wu64 ((w64 (s36.1 + s36.2))))) 1))))) rfl rfl rfl ty_s_api_Route ty_api_Route h45)) (.run (.plain rfl) (opG_q (ev_hloadN (F := TRoute.pc) (l := a0) (n := ((w64 ((uShr ((wu64 ((w64 (s36.1 + s36.2))))) 1))))) (j := 0) rfl rfl ty_api_Route rfl h47 rfl)) .nil))))))))) rfl ?_
     refine il (fn := Try.f25) (args := [.agg [.s v42.Pattern, .s v42.Host, .i v42.Preference], .agg [.s v46.Pattern, .s v46.Host, .i v46.Preference]]) 400000 499999 [(0, .hs 90009000 0), (2, .i a2), (4, .fn (.func 25) [] []), (14, .i s36.1), (15, .i s36.2), (16, .i ((w64 ((uShr ((wu64 ((w64 (s36.1 + s36.2))))) 1)))))] rfl ⟨Try.func25, rfl, by kernel_rfl⟩ rfl rfl rfl fun T4 ds4 => ?_
     refine rn tk 18 rfl ?_
     refine ie tk [.i ((w64 (v42.Preference - v46.Preference)))] [(0, .hs 90009000 0), (2, .i a2), (4, .fn (.func 25) [] []), (14, .i s36.1), (15, .i s36.2), (16, .i ((w64 ((uShr ((wu64 ((w64 (s36.1 + s36.2))))) 1)))))] [(3, .cells [.s v46.Pattern, .s v46.Host, .i v46.Preference]), (2, .cells [.s v42.Pattern, .s v42.Host, .i v42.Preference]), (90009999, .hold (.hs 90009000 0) (T.getD 0 undef)), (90009000, .row 36 true 3 (List.map TRoute.pc a0))] (.inr rfl) rfl rfl rfl rfl (hO ?_)
     refine rn tk 4 rfl ?_
     refine ac 103 hr rfl (fun c48 hr => ?_) (fun c48 hr => ?_)
     ·
      refine rn tk 6 rfl ?_
      cases hr
      exact atc rfl rfl
     ·
      refine rn tk 5 rfl ?_
      cases hr
      exact atc rfl rfl
    ·
     refine rn tk 2 rfl ?_
     cases hr
     exact ato rfl rfl rfl rfl
   ·
    refine rn tk 10 rfl ?_
    refine al1 hr (fun s49 => [(0, .hs 90009000 0), (14, .i b37), (17, .i s49.1)]) (fun s49 => [(90009999, .hold (.hs 90009000 0) (T.getD 0 undef)), (90009000, .row 36 true 3 (List.map TRoute.pc s49.2))]) (.exit 6) (fun b50 => []) (fun b50 => [(90009999, .hold (.hs 90009000 0) (T.getD 0 undef)), (90009000, .row 36 true 3 (List.map TRoute.pc b50))]) rfl rfl (fun s49 x51 hr => ?_) (fun b50 hr => ?_)
    ·
     unfold slices_symMergeCmpFunc_api_Route_r1_l4 at hr
     refine rn tk 8 rfl ?_
     refine ac 110 hr rfl (fun c52 hr => ?_) (fun c52 hr => ?_)
     ·
      refine rn tk 4 rfl ?_
      obtain ⟨v53, h54, hr⟩ := bind_some hr
      obtain ⟨v55, h56, hr⟩ := bind_some hr
      obtain ⟨v57, h58, hr⟩ := bind_some hr
      obtain ⟨v59, h60, hr⟩ := bind_some hr
      obtain ⟨v61, h62, hr⟩ := bind_some hr
      obtain ⟨v63, h64, hr⟩ := bind_some hr
      obtain ⟨v65, h66, hr⟩ := bind_some hr
      obtain ⟨v67, h68, hr⟩ := bind_some hr
      refine mz [some (.hs 90009000 0), some (.i s49.1), some (.hs 90009000 0), some (.i s49.1), some (.i ((w64 (s49.1 - 1)))), some (.hs 90009000 0), some (.i s49.1), some (.i ((w64 (s49.1 - 1)))), some (.hp 90009000 (Int.toNat ((w64 (s49.1 - 1)))) 0), some (.agg [.s v55.Pattern, .s v55.Host, .i v55.Preference]), some (.hs 90009000 0), some (.i s49.1), some (.hp 90009000 (Int.toNat s49.1) 0), some (.agg [.s v59.Pattern, .s v59.Host, .i v59.Preference]), some (.hp 90009000 (Int.toNat s49.1) 0), none, some (.hp 90009000 (Int.toNat ((w64 (s49.1 - 1)))) 0), none] (fun f s => [((bt 18 0), f, s), ((bt 18 32768), f, (Sto.upd s 90009000 (.row 36 true 3 (List.map TRoute.pc ((List.set s49.2 (Int.toNat s49.1) v55)))))), ((bt 18 163840), f, (Sto.upd (Sto.upd s 90009000 (.row 36 true 3 (List.map TRoute.pc ((List.set s49.2 (Int.toNat s49.1) v55))))) 90009000 (.row 36 true 3 (List.map TRoute.pc ((List.set ((List.set s49.2 (Int.toNat s49.1) v55)) (Int.toNat ((w64 (s49.1 - 1)))) v59))))))]) mixed (by kernel_rfl) (.cons (mn tk [8, 9, 12, 13, 14, 15] (by kernel_rfl) (.cons (.pure rfl rfl (opG_q (ev_hidx (F := TRoute.pc) (l := s49.2) (n := ((w64 (s49.1 - 1)))) rfl rfl rfl ty_s_api_Route ty_api_Route h54))) (.cons (.pure rfl rfl (opG_q (ev_hloadN (F := TRoute.pc) (l := s49.2) (n := ((w64 (s49.1 - 1)))) (j := 0) rfl rfl ty_api_Route rfl h56 rfl))) (.cons (.pure rfl rfl (opG_q (ev_hidx (F := TRoute.pc) (l := s49.2) (n := s49.1) rfl rfl rfl ty_s_api_Route ty_api_Route h58))) (.cons (.pure rfl rfl (opG_q (ev_hloadN (F := TRoute.pc) (l := s49.2) (n := s49.1) (j := 0) rfl rfl ty_api_Route rfl h60 rfl))) (.cons (.pure rfl rfl (opG_q (ev_hidx (F := TRoute.pc) (l := s49.2) (n := s49.1) rfl rfl rfl ty_s_api_Route ty_api_Route h62))) (.cons (mst 1 rfl (hv_hstore (F := TRoute.pc) (l := s49.2) (n := s49.1) (j := 0) (v := v63) (v' := v55) (pcs := [pS v55.Pattern, pS v55.Host, pI v55.Preference]) rfl rfl rfl ty_api_Route rfl h64 rfl rfl) (by kernel_rfl)) .nil))))))) (.cons (mn tk [16, 17] (by kernel_rfl) (.cons (.pure rfl rfl (opG_q (ev_hidx (F := TRoute.pc) (l := ((List.set s49.2 (Int.toNat s49.1) v55))) (n := ((w64 (s49.1 - 1)))) rfl rfl rfl ty_s_api_Route ty_api_Route h66))) (.cons (mst 2 rfl (hv_hstore (F := TRoute.pc) (l := ((List.set s49.2 (Int.toNat s49.1) v55))) (n := ((w64 (s49.1 - 1)))) (j := 0) (v := v67) (v' := v59) (pcs := [pS v59.Pattern, pS v59.Host, pI v59.Preference]) rfl rfl rfl ty_api_Route rfl h68 rfl rfl) (by kernel_rfl)) .nil))) (.cons (mf tk [] [(0, .hs 90009000 0), (14, .i b37), (17, .i s49.1)] (by kernel_rfl) .nil (fc rfl (fc rfl (fc rfl fn))) (hA ?_)) .nil)))
      refine rn tk 7 rfl ?_
      cases hr
      exact atc rfl rfl
     ·
      refine rn tk 2 rfl ?_
      cases hr
      exact ato rfl rfl rfl rfl
    ·
     refine rn tk 4 rfl ?_
     cases hr
     exact krS tk (.inr rfl) rfl rfl (stoLe_cons rfl (stoLe_cons rfl stoLe_nil))
  ·
   refine rn tk 7 rfl ?_
   refine wq (ev_i64u64 rfl ty_int ty_uint) rfl rfl rfl ?_
   refine wq (ev_ushr rfl rfl (by decide)) rfl rfl rfl ?_
   refine wq (ev_u64i64 rfl ty_uint ty_int) rfl rfl rfl ?_
   refine rn tk 17 rfl ?_
   refine jb hr (fun j69 => [(0, .hs 90009000 0), (1, .i a1), (2, .i a2), (3, .i a3), (4, .fn (.func 25) [] []), (18, .i j69.1), (19, .i j69.2.1), (20, .i j69.2.2.1), (21, .i j69.2.2.2)]) (fun j69 => [(90009999, .hold (.hs 90009000 0) (T.getD 0 undef)), (90009000, .row 36 true 3 (List.map TRoute.pc a0))]) (fun j69 hr => ?_) (fun j69 hr => ?_)
   ·
    refine rn tk 7 rfl ?_
    refine ac 140 hr rfl (fun c70 hr => ?_) (fun c70 hr => ?_)
    ·
     refine rn tk 12 rfl ?_
     cases hr
     exact jn _ rfl rfl rfl
    ·
     refine rn tk 10 rfl ?_
     cases hr
     exact jn _ rfl rfl rfl
   ·
    refine rn tk 9 rfl ?_
    refine al1 hr (fun s71 => [(0, .hs 90009000 0), (1, .i a1), (2, .i a2), (3, .i a3), (4, .fn (.func 25) [] []), (18, .i j69.1), (19, .i j69.2.1), (20, .i s71.1), (21, .i s71.2), (22, .i ((w64 (j69.2.1 - 1))))]) (fun s71 => [(90009999, .hold (.hs 90009000 0) (T.getD 0 undef)), (90009000, .row 36 true 3 (List.map TRoute.pc a0))]) (.exit 8) (fun b72 => [(0, .hs 90009000 0), (1, .i a1), (2, .i a2), (3, .i a3), (4, .fn (.func 25) [] []), (18, .i j69.1), (19, .i j69.2.1), (20, .i b72)]) (fun b72 => [(90009999, .hold (.hs 90009000 0) (T.getD 0 undef)), (90009000, .row 36 true 3 (List.map TRoute.pc a0))]) rfl rfl (fun s71 x73 hr => ?_) (fun b72 hr => ?_)
    ·
     unfold slices_symMergeCmpFunc_api_Route_r1_l5 at hr
     refine rn tk 8 rfl ?_
     refine ac 151 hr rfl (fun c74 hr => ?_) (fun c74 hr => ?_)
     ·
      refine rn tk 8 rfl ?_
      refine wq (ev_i64u64 rfl ty_int ty_uint) rfl rfl rfl ?_
      refine wq (ev_ushr rfl rfl (by decide)) rfl rfl rfl ?_
      refine wq (ev_u64i64 rfl ty_uint ty_int) rfl rfl rfl ?_
      refine rn tk 4 rfl ?_
      obtain ⟨v75, h76, hr⟩ := bind_some hr
      obtain ⟨v77, h78, hr⟩ := bind_some hr
      obtain ⟨v79, h80, hr⟩ := bind_some hr
      obtain ⟨v81, h82, hr⟩ := bind_some hr
      refine dr 11 [(168, .agg [.s v81.Pattern, .s v81.Host, .i v81.Preference]), (167, .hp 90009000 (Int.toNat ((w64 ((uShr ((wu64 ((w64 (s71.1 + s71.2))))) 1))))) 0), (166, .i ((w64 ((uShr ((wu64 ((w64 (s71.1 + s71.2))))) 1))))), (165, .hs 90009000 0), (164, .agg [.s v77.Pattern, .s v77.Host, .i v77.Preference]), (163, .hp 90009000 (Int.toNat ((w64 ((w64 (j69.2.1 - 1)) - (w64 ((uShr ((wu64 ((w64 (s71.1 + s71.2))))) 1))))))) 0), (162, .i ((w64 ((w64 (j69.2.1 - 1)) - (w64 ((uShr ((wu64 ((w64 (s71.1 + s71.2))))) 1))))))), (161, .i ((w64 ((uShr ((wu64 ((w64 (s71.1 + s71.2))))) 1))))), (160, .i ((w64 (j69.2.1 - 1)))), (159, .hs 90009000 0), (158, .fn (.func 25) [] [])] mixed (by kernel_rfl) rfl rfl (pq tk rfl (.plain rfl) (pq tk rfl (.plain rfl) (pq tk rfl (.plain rfl) (pq tk rfl (.plain rfl) (pq tk rfl (.plain rfl) (.run (.plain rfl) (opG_q (ev_hidx (F := TRoute.pc) (l := a0) (n := ((w64 ((w64 (j69.2.1 - 1)) - (w64 ((uShr ((wu64 ((w64 (s71.1 + s71.2))))) 1))))))) rfl rfl rfl ty_s_api_Route ty_api_Route h76)) (.run (.plain rfl) (opG_q (ev_hloadN (F := TRoute.pc) (l := a0) (n := ((w64 ((w64 (j69.2.1 - 1)) - (w64 ((uShr ((wu64 ((w64 (s71.1 + s71.2))))) 1))))))) (j := 0) rfl rfl ty_api_Route rfl h78 rfl)) (pq tk rfl (.plain rfl) (pq tk rfl (.plain rfl) (.run (.plain rfl) (opG_q (ev_hidx (F := TRoute.pc) (l := a0) (n := ((w64 ((uShr ((wu64 ((w64 (s71.1 + s71.2))))) 1))))) rfl rfl rfl ty_s_api_Route ty_api_Route h80)) (.run (.plain rfl) (opG_q (ev_hloadN (F := TRoute.pc) (l := a0) (n := ((w64 ((uShr ((wu64 ((w64 (s71.1 + s71.2))))) 1))))) (j := 0) rfl rfl ty_api_Route rfl h82 rfl)) .nil))))))))))) rfl ?_
      refine il (fn := Try.f25) (args := [.agg [.s v77.Pattern, .s v77.Host, .i v77.Preference], .agg [.s v81.Pattern, .s v81.Host, .i v81.Preference]]) 600000 699999 [(0, .hs 90009000 0), (1, .i a1), (2, .i a2), (3, .i a3), (4, .fn (.func 25) [] []), (18, .i j69.1), (19, .i j69.2.1), (20, .i s71.1), (21, .i s71.2), (22, .i ((w64 (j69.2.1 - 1)))), (23, .i ((w64 ((uShr ((wu64 ((w64 (s71.1 + s71.2))))) 1)))))] rfl ⟨Try.func25, rfl, by kernel_rfl⟩ rfl rfl rfl fun T6 ds6 => ?_
      refine rn tk 18 rfl ?_
      refine ie tk [.i ((w64 (v77.Preference - v81.Preference)))] [(0, .hs 90009000 0), (1, .i a1), (2, .i a2), (3, .i a3), (4, .fn (.func 25) [] []), (18, .i j69.1), (19, .i j69.2.1), (20, .i s71.1), (21, .i s71.2), (22, .i ((w64 (j69.2.1 - 1)))), (23, .i ((w64 ((uShr ((wu64 ((w64 (s71.1 + s71.2))))) 1)))))] [(3, .cells [.s v81.Pattern, .s v81.Host, .i v81.Preference]), (2, .cells [.s v77.Pattern, .s v77.Host, .i v77.Preference]), (90009999, .hold (.hs 90009000 0) (T.getD 0 undef)), (90009000, .row 36 true 3 (List.map TRoute.pc a0))] (.inr rfl) rfl rfl rfl rfl (hO ?_)
      refine rn tk 4 rfl ?_
      refine ac 171 hr rfl (fun c83 hr => ?_) (fun c83 hr => ?_)
      ·
       refine rn tk 6 rfl ?_
       cases hr
       exact atc rfl rfl
      ·
       refine rn tk 5 rfl ?_
       cases hr
       exact atc rfl rfl
     ·
      refine rn tk 2 rfl ?_
      cases hr
      exact ato rfl rfl rfl rfl
    ·
     refine rn tk 10 rfl ?_
     refine jb hr (fun j84 => [(0, .hs 90009000 0), (1, .i a1), (3, .i a3), (4, .fn (.func 25) [] []), (18, .i j69.1), (20, .i b72), (24, .i j84.1)]) (fun j84 => [(90009000, .row 36 true 3 (List.map TRoute.pc j84.2)), (90009999, .hold (.hs 90009000 0) (T.getD 0 undef))]) (fun j84 hr => ?_) (fun j84 hr => ?_)
     ·
      refine jb hr (fun j85 => [(0, .hs 90009000 0), (1, .i a1), (2, .i a2), (3, .i a3), (4, .fn (.func 25) [] []), (18, .i j69.1), (20, .i b72), (24, .i j85.1), (185, .bo j85.2)]) (fun j85 => [(90009999, .hold (.hs 90009000 0) (T.getD 0 undef)), (90009000, .row 36 true 3 (List.map TRoute.pc a0))]) (fun j85 hr => ?_) (fun j85 hr => ?_)
      ·
       refine rn tk 5 rfl ?_
       refine bs 181 hr rfl (fun c86 hr => ?_) (fun c86 hr => ?_)
       ·
        refine rn tk 5 rfl ?_
        cases hr
        exact jn _ rfl rfl rfl
       ·
        refine rn tk 5 rfl ?_
        cases hr
        exact jn _ rfl rfl rfl
      ·
       refine ac 185 hr rfl (fun c87 hr => ?_) (fun c87 hr => ?_)
       ·
        refine rn tk 6 rfl ?_
        obtain ⟨v88, h89, hr⟩ := bind_some hr
        refine wo (opTo_callS (k := 191) (slices_rotateCmpFunc_api_Route_run a0 b72 a2 j85.1 v88 h89) rfl rfl (stoLe_cons rfl stoLe_nil)) rfl ?_
        refine rn tk 1 rfl ?_
        cases hr
        exact jn _ rfl rfl rfl
       ·
        refine rn tk 1 rfl ?_
        cases hr
        exact jn _ rfl rfl rfl
     ·
      refine jb hr (fun j90 => [(0, .hs 90009000 0), (3, .i a3), (4, .fn (.func 25) [] []), (18, .i j69.1), (24, .i j84.1)]) (fun j90 => [(90009000, .row 36 true 3 (List.map TRoute.pc j90)), (90009999, .hold (.hs 90009000 0) (T.getD 0 undef))]) (fun j90 hr => ?_) (fun j90 hr => ?_)
      ·
       refine jb hr (fun j91 => [(0, .hs 90009000 0), (1, .i a1), (3, .i a3), (4, .fn (.func 25) [] []), (18, .i j69.1), (20, .i b72), (24, .i j84.1), (199, .bo j91)]) (fun j91 => [(90009000, .row 36 true 3 (List.map TRoute.pc j84.2)), (90009999, .hold (.hs 90009000 0) (T.getD 0 undef))]) (fun j91 hr => ?_) (fun j91 hr => ?_)
       ·
        refine rn tk 5 rfl ?_
        refine bs 195 hr rfl (fun c92 hr => ?_) (fun c92 hr => ?_)
        ·
         refine rn tk 5 rfl ?_
         cases hr
         exact jn _ rfl rfl rfl
        ·
         refine rn tk 5 rfl ?_
         cases hr
         exact jn _ rfl rfl rfl
       ·
        refine ac 199 hr rfl (fun c93 hr => ?_) (fun c93 hr => ?_)
        ·
         refine rn tk 6 rfl ?_
         obtain ⟨v94, h95, hr⟩ := bind_some hr
         refine wo (opTo_callS (k := 205) (slices_symMergeCmpFunc_api_Route_r0_run j84.2 a1 b72 j69.1 v94 h95) rfl rfl (stoLe_cons rfl stoLe_nil)) rfl ?_
         refine rn tk 1 rfl ?_
         cases hr
         exact jn _ rfl rfl rfl
        ·
         refine rn tk 1 rfl ?_
         cases hr
         exact jn _ rfl rfl rfl
      ·
       refine jb hr (fun j96 => [(0, .hs 90009000 0), (3, .i a3), (4, .fn (.func 25) [] []), (18, .i j69.1), (24, .i j84.1), (213, .bo j96)]) (fun j96 => [(90009000, .row 36 true 3 (List.map TRoute.pc j90)), (90009999, .hold (.hs 90009000 0) (T.getD 0 undef))]) (fun j96 hr => ?_) (fun j96 hr => ?_)
       ·
        refine rn tk 5 rfl ?_
        refine bs 209 hr rfl (fun c97 hr => ?_) (fun c97 hr => ?_)
        ·
         refine rn tk 5 rfl ?_
         cases hr
         exact jn _ rfl rfl rfl
        ·
         refine rn tk 5 rfl ?_
         cases hr
         exact jn _ rfl rfl rfl
       ·
        refine ac 213 hr rfl (fun c98 hr => ?_) (fun c98 hr => ?_)
        ·
         refine rn tk 6 rfl ?_
         obtain ⟨v99, h100, hr⟩ := bind_some hr
         refine wo (opTo_callS (k := 219) (slices_symMergeCmpFunc_api_Route_r0_run j90 j69.1 j84.1 a3 v99 h100) rfl rfl (stoLe_cons rfl stoLe_nil)) rfl ?_
         refine rn tk 1 rfl ?_
         cases hr
         exact krS tk (.inl rfl) rfl rfl (stoLe_cons rfl (stoLe_cons rfl stoLe_nil))
        ·
         refine rn tk 1 rfl ?_
         cases hr
         exact krS tk (.inl rfl) rfl rfl (stoLe_cons rfl (stoLe_cons rfl stoLe_nil))
private theorem slices_symMergeCmpFunc_api_Route_r2_run (a0 : List TRoute) (a1 : Int) (a2 : Int) (a3 : Int) (r : List TRoute) (hr : slices_symMergeCmpFunc_api_Route_r2 a0 a1 a2 a3 = some r) : RunS Try.prog 43 [.hs 90009000 0, .i a1, .i a2, .i a3, .fn (.func 25) [] []] [(90009000, .row 36 true 3 (List.map TRoute.pc a0))] (.tup []) [(90009000, .row 36 true 3 (List.map TRoute.pc r))] 90009000 [] := by
 unfold slices_symMergeCmpFunc_api_Route_r2 at hr
 obtain ⟨hne, hr⟩ := rowne hr
 refine rfW (fn := Try.f43) (H := 90009999) ⟨Try.func43, rfl, by kernel_rfl⟩ rfl (fun _ => rfl) rfl rfl rfl (hne _) rfl rfl rfl rfl rfl fun g0 hg S sg T => ?_
 refine rn tk 9 rfl ?_
 refine ac 28 hr rfl (fun c1 hr => ?_) (fun c1 hr => ?_)
 ·
  refine rn tk 14 rfl ?_
  refine al1 hr (fun s2 => [(0, .hs 90009000 0), (1, .i a1), (4, .fn (.func 25) [] []), (10, .i s2.1), (11, .i s2.2)]) (fun s2 => [(90009999, .hold (.hs 90009000 0) (T.getD 0 undef)), (90009000, .row 36 true 3 (List.map TRoute.pc a0))]) (.exit 0) (fun b3 => [(0, .hs 90009000 0), (1, .i a1), (10, .i b3)]) (fun b3 => [(90009999, .hold (.hs 90009000 0) (T.getD 0 undef)), (90009000, .row 36 true 3 (List.map TRoute.pc a0))]) rfl rfl (fun s2 x4 hr => ?_) (fun b3 hr => ?_)
  ·
   unfold slices_symMergeCmpFunc_api_Route_r2_l1 at hr
   refine rn tk 8 rfl ?_
   refine ac 33 hr rfl (fun c5 hr => ?_) (fun c5 hr => ?_)
   ·
    refine rn tk 8 rfl ?_
    refine wq (ev_i64u64 rfl ty_int ty_uint) rfl rfl rfl ?_
    refine wq (ev_ushr rfl rfl (by decide)) rfl rfl rfl ?_
    refine wq (ev_u64i64 rfl ty_uint ty_int) rfl rfl rfl ?_
    refine rn tk 4 rfl ?_
    obtain ⟨v6, h7, hr⟩ := bind_some hr
    obtain ⟨v8, h9, hr⟩ := bind_some hr
    obtain ⟨v10, h11, hr⟩ := bind_some hr
    obtain ⟨v12, h13, hr⟩ := bind_some hr
    refine dr 9 [(48, .agg [.s v12.Pattern, .s v12.Host, .i v12.Preference]), (47, .hp 90009000 (Int.toNat a1) 0), (46, .i a1), (45, .hs 90009000 0), (44, .agg [.s v8.Pattern, .s v8.Host, .i v8.Preference]), (43, .hp 90009000 (Int.toNat ((w64 ((uShr ((wu64 ((w64 (s2.1 + s2.2))))) 1))))) 0), (42, .i ((w64 ((uShr ((wu64 ((w64 (s2.1 + s2.2))))) 1))))), (41, .hs 90009000 0), (40, .fn (.func 25) [] [])] mixed (by kernel_rfl) rfl rfl (pq tk rfl (.plain rfl) (pq tk rfl (.plain rfl) (pq tk rfl (.plain rfl) (.run (.plain rfl) (opG_q (ev_hidx (F := TRoute.pc) (l := a0) (n := ((w64 ((uShr ((wu64 ((w64 (s2.1 + s2.2))))) 1))))) rfl rfl rfl ty_s_api_Route ty_api_Route h7)) (.run (.plain rfl) (opG_q (ev_hloadN (F := TRoute.pc) (l := a0) (n := ((w64 ((uShr ((wu64 ((w64 (s2.1 + s2.2))))) 1))))) (j := 0) rfl rfl ty_api_Route rfl h9 rfl)) (pq tk rfl (.plain rfl) (pq tk rfl (.plain rfl) (.run (.plain rfl) (opG_q (ev_hidx (F := TRoute.pc) (l := a0) (n := a1) rfl rfl rfl ty_s_api_Route ty_api_Route h11)) (.run (.plain rfl) (opG_q (ev_hloadN (F := TRoute.pc) (l := a0) (n := a1) (j := 0) rfl rfl ty_api_Route rfl h13 rfl)) .nil))))))))) rfl ?_
    refine il (fn := Try.f25) (args := [.agg [.s v8.Pattern, .s v8.Host, .i v8.Preference], .agg [.s v12.Pattern, .s v12.Host, .i v12.Preference]]) 200000 299999 [(0, .hs 90009000 0), (1, .i a1), (4, .fn (.func 25) [] []), (10, .i s2.1), (11, .i s2.2), (12, .i ((w64 ((uShr ((wu64 ((w64 (s2.1 + s2.2))))) 1)))))] rfl ⟨Try.func25, rfl, by kernel_rfl⟩ rfl rfl rfl fun T2 ds2 => ?_
    refine rn tk 18 rfl ?_
    refine ie tk [.i ((w64 (v8.Preference - v12.Preference)))] [(0, .hs 90009000 0), (1, .i a1), (4, .fn (.func 25) [] []), (10, .i s2.1), (11, .i s2.2), (12, .i ((w64 ((uShr ((wu64 ((w64 (s2.1 + s2.2))))) 1)))))] [(3, .cells [.s v12.Pattern, .s v12.Host, .i v12.Preference]), (2, .cells [.s v8.Pattern, .s v8.Host, .i v8.Preference]), (90009999, .hold (.hs 90009000 0) (T.getD 0 undef)), (90009000, .row 36 true 3 (List.map TRoute.pc a0))] (.inr rfl) rfl rfl rfl rfl (hO ?_)
    refine rn tk 3 rfl ?_
    refine ac 50 hr rfl (fun c14 hr => ?_) (fun c14 hr => ?_)
    ·
     refine rn tk 6 rfl ?_
     cases hr
     exact atc rfl rfl
    ·
     refine rn tk 5 rfl ?_
     cases hr
     exact atc rfl rfl
   ·
    refine rn tk 2 rfl ?_
    cases hr
    exact ato rfl rfl rfl rfl
  ·
   refine rn tk 10 rfl ?_
   refine al1 hr (fun s15 => [(0, .hs 90009000 0), (10, .i b3), (13, .i s15.1)]) (fun s15 => [(90009999, .hold (.hs 90009000 0) (T.getD 0 undef)), (90009000, .row 36 true 3 (List.map TRoute.pc s15.2))]) (.exit 2) (fun b16 => []) (fun b16 => [(90009999, .hold (.hs 90009000 0) (T.getD 0 undef)), (90009000, .row 36 true 3 (List.map TRoute.pc b16))]) rfl rfl (fun s15 x17 hr => ?_) (fun b16 hr => ?_)
   ·
    unfold slices_symMergeCmpFunc_api_Route_r2_l2 at hr
    refine rn tk 9 rfl ?_
    refine ac 58 hr rfl (fun c18 hr => ?_) (fun c18 hr => ?_)
    ·
     refine rn tk 4 rfl ?_
     obtain ⟨v19, h20, hr⟩ := bind_some hr
     obtain ⟨v21, h22, hr⟩ := bind_some hr
     obtain ⟨v23, h24, hr⟩ := bind_some hr
     obtain ⟨v25, h26, hr⟩ := bind_some hr
     obtain ⟨v27, h28, hr⟩ := bind_some hr
     obtain ⟨v29, h30, hr⟩ := bind_some hr
     obtain ⟨v31, h32, hr⟩ := bind_some hr
     obtain ⟨v33, h34, hr⟩ := bind_some hr
     refine mz [some (.hs 90009000 0), some (.i s15.1), some (.hs 90009000 0), some (.i s15.1), some (.i ((w64 (s15.1 + 1)))), some (.hs 90009000 0), some (.i s15.1), some (.i ((w64 (s15.1 + 1)))), some (.hp 90009000 (Int.toNat ((w64 (s15.1 + 1)))) 0), some (.agg [.s v21.Pattern, .s v21.Host, .i v21.Preference]), some (.hs 90009000 0), some (.i s15.1), some (.hp 90009000 (Int.toNat s15.1) 0), some (.agg [.s v25.Pattern, .s v25.Host, .i v25.Preference]), some (.hp 90009000 (Int.toNat s15.1) 0), none, some (.hp 90009000 (Int.toNat ((w64 (s15.1 + 1)))) 0), none] (fun f s => [((bt 18 0), f, s), ((bt 18 32768), f, (Sto.upd s 90009000 (.row 36 true 3 (List.map TRoute.pc ((List.set s15.2 (Int.toNat s15.1) v21)))))), ((bt 18 163840), f, (Sto.upd (Sto.upd s 90009000 (.row 36 true 3 (List.map TRoute.pc ((List.set s15.2 (Int.toNat s15.1) v21))))) 90009000 (.row 36 true 3 (List.map TRoute.pc ((List.set ((List.set s15.2 (Int.toNat s15.1) v21)) (Int.toNat ((w64 (s15.1 + 1)))) v25))))))]) mixed (by kernel_rfl) (.cons (mn tk [8, 9, 12, 13, 14, 15] (by kernel_rfl) (.cons (.pure rfl rfl (opG_q (ev_hidx (F := TRoute.pc) (l := s15.2) (n := ((w64 (s15.1 + 1)))) rfl rfl rfl ty_s_api_Route ty_api_Route h20))) (.cons (.pure rfl rfl (opG_q (ev_hloadN (F := TRoute.pc) (l := s15.2) (n := ((w64 (s15.1 + 1)))) (j := 0) rfl rfl ty_api_Route rfl h22 rfl))) (.cons (.pure rfl rfl (opG_q (ev_hidx (F := TRoute.pc) (l := s15.2) (n := s15.1) rfl rfl rfl ty_s_api_Route ty_api_Route h24))) (.cons (.pure rfl rfl (opG_q (ev_hloadN (F := TRoute.pc) (l := s15.2) (n := s15.1) (j := 0) rfl rfl ty_api_Route rfl h26 rfl))) (.cons (.pure rfl rfl (opG_q (ev_hidx (F := TRoute.pc) (l := s15.2) (n := s15.1) rfl rfl rfl ty_s_api_Route ty_api_Route h28))) (.cons (mst 1 rfl (hv_hstore (F := TRoute.pc) (l := s15.2) (n := s15.1) (j := 0) (v := v29) (v' := v21) (pcs := [pS v21.Pattern, pS v21.Host, pI v21.Preference]) rfl rfl rfl ty_api_Route rfl h30 rfl rfl) (by kernel_rfl)) .nil))))))) (.cons (mn tk [16, 17] (by kernel_rfl) (.cons (.pure rfl rfl (opG_q (ev_hidx (F := TRoute.pc) (l := ((List.set s15.2 (Int.toNat s15.1) v21))) (n := ((w64 (s15.1 + 1)))) rfl rfl rfl ty_s_api_Route ty_api_Route h32))) (.cons (mst 2 rfl (hv_hstore (F := TRoute.pc) (l := ((List.set s15.2 (Int.toNat s15.1) v21))) (n := ((w64 (s15.1 + 1)))) (j := 0) (v := v33) (v' := v25) (pcs := [pS v25.Pattern, pS v25.Host, pI v25.Preference]) rfl rfl rfl ty_api_Route rfl h34 rfl rfl) (by kernel_rfl)) .nil))) (.cons (mf tk [] [(0, .hs 90009000 0), (10, .i b3), (13, .i s15.1)] (by kernel_rfl) .nil (fc rfl (fc rfl (fc rfl fn))) (hA ?_)) .nil)))
     refine rn tk 7 rfl ?_
     cases hr
     exact atc rfl rfl
    ·
     refine rn tk 2 rfl ?_
     cases hr
     exact ato rfl rfl rfl rfl
   ·
    refine rn tk 4 rfl ?_
    cases hr
    exact krS tk (.inr rfl) rfl rfl (stoLe_cons rfl (stoLe_cons rfl stoLe_nil))
 ·
  refine rn tk 11 rfl ?_
  refine ac 80 hr rfl (fun c35 hr => ?_) (fun c35 hr => ?_)
  ·
   refine rn tk 14 rfl ?_
   refine al1 hr (fun s36 => [(0, .hs 90009000 0), (2, .i a2), (4, .fn (.func 25) [] []), (14, .i s36.1), (15, .i s36.2)]) (fun s36 => [(90009999, .hold (.hs 90009000 0) (T.getD 0 undef)), (90009000, .row 36 true 3 (List.map TRoute.pc a0))]) (.exit 4) (fun b37 => [(0, .hs 90009000 0), (2, .i a2), (14, .i b37)]) (fun b37 => [(90009999, .hold (.hs 90009000 0) (T.getD 0 undef)), (90009000, .row 36 true 3 (List.map TRoute.pc a0))]) rfl rfl (fun s36 x38 hr => ?_) (fun b37 hr => ?_)
   ·
    unfold slices_symMergeCmpFunc_api_Route_r2_l3 at hr
    refine rn tk 8 rfl ?_
    refine ac 85 hr rfl (fun c39 hr => ?_) (fun c39 hr => ?_)
    ·
     refine rn tk 8 rfl ?_
     refine wq (ev_i64u64 rfl ty_int ty_uint) rfl rfl rfl ?_
     refine wq (ev_ushr rfl rfl (by decide)) rfl rfl rfl ?_
     refine wq (ev_u64i64 rfl ty_uint ty_int) rfl rfl rfl ?_
     refine rn tk 4 rfl ?_
     obtain ⟨v40, h41, hr⟩ := bind_some hr
     obtain ⟨v42, h43, hr⟩ := bind_some hr
     obtain ⟨v44, h45, hr⟩ := bind_some hr
     obtain ⟨v46, h47, hr⟩ := bind_some hr
     refine dr 9 [(100, .agg [.s v46.Pattern, .s v46.Host, .i v46.Preference]), (99, .hp 90009000 (Int.toNat ((w64 ((uShr ((wu64 ((w64 (s36.1 + s36.2))))) 1))))) 0), (98, .i ((w64 ((uShr ((wu64 ((w64 (s36.1 + s36.2))))) 1))))), (97, .hs 90009000 0), (96, .agg [.s v42.Pattern, .s v42.Host, .i v42.Preference]), (95, .hp 90009000 (Int.toNat a2) 0), (94, .i a2), (93, .hs 90009000 0), (92, .fn (.func 25) [] [])] mixed (by kernel_rfl) rfl rfl (pq tk rfl (.plain rfl) (pq tk rfl (.plain rfl) (pq tk rfl (.plain rfl) (.run (.plain rfl) (opG_q (ev_hidx (F := TRoute.pc) (l := a0) (n := a2) rfl rfl rfl ty_s_api_Route ty_api_Route h41)) (.run (.plain rfl) (opG_q (ev_hloadN (F := TRoute.pc) (l := a0) (n := a2) (j := 0) rfl rfl ty_api_Route rfl h43 rfl)) (pq tk rfl (.plain rfl) (pq tk rfl (.plain rfl) (.run (.plain rfl) (opG_q (ev_hidx (F := TRoute.pc) (l := a0) (n := ((w64 ((uShr ((wu64 ((w64 (s36.1 + s36.2))))) 1))))) rfl rfl rfl ty_s_api_Route ty_api_Route h45)) (.run (.plain rfl) (opG_q (ev_hloadN (F := TRoute.pc) (l := a0) (n := ((w64 ((uShr ((wu64 ((w64 (s36.1 + s36.2))))) 1))))) (j := 0) rfl rfl ty_api_Route rfl h47 rfl)) .nil))))))))) rfl ?_
     refine il (fn := Try.f25) (args := [.agg [.s v42.Pattern, .s v42.Host, .i v42.Preference], .agg [.s v46.Pattern, .s v46.Host, .i v46.Preference]]) 400000 499999 [(0, .hs 90009000 0), (2, .i a2), (4, .fn (.func 25) [] []), (14, .i s36.1), (15, .i s36.2), (16, .i ((w64 ((uShr ((wu64 ((w64 (s36.1 + s36.2))))) 1)))))] rfl ⟨Try.func25, rfl, by kernel_rfl⟩ rfl rfl rfl fun T4 ds4 => ?_
     refine rn tk 18 rfl ?_
     refine ie tk [.i ((w64 (v42.Preference - v46.Preference)))] [(0, .hs 90009000 0), (2, .i a2), (4, .fn (.func 25) [] []), (14, .i s36.1), (15, .i s36.2), (16, .i ((w64 ((uShr ((wu64 ((w64 (s36.1 + s36.2))))) 1)))))] [(3, .cells [.s v46.Pattern, .s v46.Host, .i v46.Preference]), (2, .cells [.s v42.Pattern, .s v42.Host, .i v42.Preference]), (90009999, .hold (.hs 90009000 0) (T.getD 0 undef)), (90009000, .row 36 true 3 (List.map TRoute.pc a0))] (.inr rfl) rfl rfl rfl rfl (hO ?_)
     refine rn tk 4 rfl ?_
     refine ac 103 hr rfl (fun c48 hr => ?_) (fun c48 hr => ?_)
     ·
      refine rn tk 6 rfl ?_
      cases hr
      exact atc rfl rfl
     ·
      refine rn tk 5 rfl ?_
      cases hr
      exact atc rfl rfl
    ·
     refine rn tk 2 rfl ?_
     cases hr
     exact ato rfl rfl rfl rfl
   ·
    refine rn tk 10 rfl ?_
    refine al1 hr (fun s49 => [(0, .hs 90009000 0), (14, .i b37), (17, .i s49.1)]) (fun s49 => [(90009999, .hold (.hs 90009000 0) (T.getD 0 undef)), (90009000, .row 36 true 3 (List.map TRoute.pc s49.2))]) (.exit 6) (fun b50 => []) (fun b50 => [(90009999, .hold (.hs 90009000 0) (T.getD 0 undef)), (90009000, .row 36 true 3 (List.map TRoute.pc b50))]) rfl rfl (fun s49 x51 hr => ?_) (fun b50 hr => ?_)
    ·
     unfold slices_symMergeCmpFunc_api_Route_r2_l4 at hr
     refine rn tk 8 rfl ?_
     refine ac 110 hr rfl (fun c52 hr => ?_) (fun c52 hr => ?_)
     ·
      refine rn tk 4 rfl ?_
      obtain ⟨v53, h54, hr⟩ := bind_some hr
      obtain ⟨v55, h56, hr⟩ := bind_some hr
      obtain ⟨v57, h58, hr⟩ := bind_some hr
      obtain ⟨v59, h60, hr⟩ := bind_some hr
      obtain ⟨v61, h62, hr⟩ := bind_some hr
      obtain ⟨v63, h64, hr⟩ := bind_some hr
      obtain ⟨v65, h66, hr⟩ := bind_some hr
      obtain ⟨v67, h68, hr⟩ := bind_some hr
      refine mz [some (.hs 90009000 0), some (.i s49.1), some (.hs 90009000 0), some (.i s49.1), some (.i ((w64 (s49.1 - 1)))), some (.hs 90009000 0), some (.i s49.1), some (.i ((w64 (s49.1 - 1)))), some (.hp 90009000 (Int.toNat ((w64 (s49.1 - 1)))) 0), some (.agg [.s v55.Pattern, .s v55.Host, .i v55.Preference]), some (.hs 90009000 0), some (.i s49.1), some (.hp 90009000 (Int.toNat s49.1) 0), some (.agg [.s v59.Pattern, .s v59.Host, .i v59.Preference]), some (.hp 90009000 (Int.toNat s49.1) 0), none, some (.hp 90009000 (Int.toNat ((w64 (s49.1 - 1)))) 0), none] (fun f s => [((bt 18 0), f, s), ((bt 18 32768), f, (Sto.upd s 90009000 (.row 36 true 3 (List.map TRoute.pc ((List.set s49.2 (Int.toNat s49.1) v55)))))), ((bt 18 163840), f, (Sto.upd (Sto.upd s 90009000 (.row 36 true 3 (List.map TRoute.pc ((List.set s49.2 (Int.toNat s49.1) v55))))) 90009000 (.row 36 true 3 (List.map TRoute.pc ((List.set ((List.set s49.2 (Int.toNat s49.1) v55)) (Int.toNat ((w64 (s49.1 - 1)))) v59))))))]) mixed (by kernel_rfl) (.cons (mn tk [8, 9, 12, 13, 14, 15] (by kernel_rfl) (.cons (.pure rfl rfl (opG_q (ev_hidx (F := TRoute.pc) (l := s49.2) (n := ((w64 (s49.1 - 1)))) rfl rfl rfl ty_s_api_Route ty_api_Route h54))) (.cons (.pure rfl rfl (opG_q (ev_hloadN (F := TRoute.pc) (l := s49.2) (n := ((w64 (s49.1 - 1)))) (j := 0) rfl rfl ty_api_Route rfl h56 rfl))) (.cons (.pure rfl rfl (opG_q (ev_hidx (F := TRoute.pc) (l := s49.2) (n := s49.1) rfl rfl rfl ty_s_api_Route ty_api_Route h58))) (.cons (.pure rfl rfl (opG_q (ev_hloadN (F := TRoute.pc) (l := s49.2) (n := s49.1) (j := 0) rfl rfl ty_api_Route rfl h60 rfl))) (.cons (.pure rfl rfl (opG_q (ev_hidx (F := TRoute.pc) (l := s49.2) (n := s49.1) rfl rfl rfl ty_s_api_Route ty_api_Route h62))) (.cons (mst 1 rfl (hv_hstore (F := TRoute.pc) (l := s49.2) (n := s49.1) (j := 0) (v := v63) (v' := v55) (pcs := [pS v55.Pattern, pS v55.Host, pI v55.Preference]) rfl rfl rfl ty_api_Route rfl h64 rfl rfl) (by kernel_rfl)) .nil))))))) (.cons (mn tk [16, 17] (by kernel_rfl) (.cons (.pure rfl rfl (opG_q (ev_hidx (F := TRoute.pc) (l := ((List.set s49.2 (Int.toNat s49.1) v55))) (n := ((w64 (s49.1 - 1)))) rfl rfl rfl ty_s_api_Route ty_api_Route h66))) (.cons (mst 2 rfl (hv_hstore (F := TRoute.pc) (l := ((List.set s49.2 (Int.toNat s49.1) v55))) (n := ((w64 (s49.1 - 1)))) (j := 0) (v := v67) (v' := v59) (pcs := [pS v59.Pattern, pS v59.Host, pI v59.Preference]) rfl rfl rfl ty_api_Route rfl h68 rfl rfl) (by kernel_rfl)) .nil))) (.cons (mf tk [] [(0, .hs 90009000 0), (14, .i b37), (17, .i s49.1)] (by kernel_rfl) .nil (fc rfl (fc rfl (fc rfl fn))) (hA ?_)) .nil)))
      refine rn tk 7 rfl ?_
      cases hr
      exact atc rfl rfl
     ·
      refine rn tk 2 rfl ?_
      cases hr
      exact ato rfl rfl rfl rfl
    ·
     refine rn tk 4 rfl ?_
     cases hr
     exact krS tk (.inr rfl) rfl rfl (stoLe_cons rfl (stoLe_cons rfl stoLe_nil))
  ·
   refine rn tk 7 rfl ?_
   refine wq (ev_i64u64 rfl ty_int ty_uint) rfl rfl rfl ?_
   refine wq (ev_ushr rfl rfl (by decide)) rfl rfl rfl ?_
   refine wq (ev_u64i64 rfl ty_uint ty_int) rfl rfl rfl ?_
   refine rn tk 17 rfl ?_
   refine jb hr (fun j69 => [(0, .hs 90009000 0), (1, .i a1), (2, .i a2), (3, .i a3), (4, .fn (.func 25) [] []), (18, .i j69.1), (19, .i j69.2.1), (20, .i j69.2.2.1), (21, .i j69.2.2.2)]) (fun j69 => [(90009999, .hold (.hs 90009000 0) (T.getD 0 undef)), (90009000, .row 36 true 3 (List.map TRoute.pc a0))]) (fun j69 hr => ?_) (fun j69 hr => ?_)
   ·
    refine rn tk 7 rfl ?_
    refine ac 140 hr rfl (fun c70 hr => ?_) (fun c70 hr => ?_)
    ·
     refine rn tk 12 rfl ?_
     cases hr
     exact jn _ rfl rfl rfl
    ·
     refine rn tk 10 rfl ?_
     cases hr
     exact jn _ rfl rfl rfl
   ·
    refine rn tk 9 rfl ?_
    refine al1 hr (fun s71 => [(0, .hs 90009000 0), (1, .i a1), (2, .i a2), (3, .i a3), (4, .fn (.func 25) [] []), (18, .i j69.1), (19, .i j69.2.1), (20, .i s71.1), (21, .i s71.2), (22, .i ((w64 (j69.2.1 - 1))))]) (fun s71 => [(90009999, .hold (.hs 90009000 0) (T.getD 0 undef)), (90009000, .row 36 true 3 (List.map TRoute.pc a0))]) (.exit 8) (fun b72 => [(0, .hs 90009000 0), (1, .i a1), (2, .i a2), (3, .i a3), (4, .fn (.func 25) [] []), (18, .i j69.1), (19, .i j69.2.1), (20, .i b72)]) (fun b72 => [(90009999, .hold (.hs 90009000 0) (T.getD 0 undef)), (90009000, .row 36 true 3 (List.map TRoute.pc a0))]) rfl rfl (fun s71 x73 hr => ?_) (fun b72 hr => ?_)
    ·
     unfold slices_symMergeCmpFunc_api_Route_r2_l5 at hr
     refine rn tk 8 rfl ?_
     refine ac 151 hr rfl (fun c74 hr => ?_) (fun c74 hr => ?_)
     ·
      refine rn tk 8 rfl ?_
      refine wq (ev_i64u64 rfl ty_int ty_uint) rfl rfl rfl ?_
      refine wq (ev_ushr rfl rfl (by decide)) rfl rfl rfl ?_
      refine wq (ev_u64i64 rfl ty_uint ty_int) rfl rfl rfl ?_
      refine rn tk 4 rfl ?_
      obtain ⟨v75, h76, hr⟩ := bind_some hr
      obtain ⟨v77, h78, hr⟩ := bind_some hr
      obtain ⟨v79, h80, hr⟩ := bind_some hr
      obtain ⟨v81, h82, hr⟩ := bind_some hr
      refine dr 11 [(168, .agg [.s v81.Pattern, .s v81.Host, .i v81.Preference]), (167, .hp 90009000 (Int.toNat ((w64 ((uShr ((wu64 ((w64 (s71.1 + s71.2))))) 1))))) 0), (166, .i ((w64 ((uShr ((wu64 ((w64 (s71.1 + s71.2))))) 1))))), (165, .hs 90009000 0), (164, .agg [.s v77.Pattern, .s v77.Host, .i v77.Preference]), (163, .hp 90009000 (Int.toNat ((w64 ((w64 (j69.2.1 - 1)) - (w64 ((uShr ((wu64 ((w64 (s71.1 + s71.2))))) 1))))))) 0), (162, .i ((w64 ((w64 (j69.2.1 - 1)) - (w64 ((uShr ((wu64 ((w64 (s71.1 + s71.2))))) 1))))))), (161, .i ((w64 ((uShr ((wu64 ((w64 (s71.1 + s71.2))))) 1))))), (160, .i ((w64 (j69.2.1 - 1)))), (159, .hs 90009000 0), (158, .fn (.func 25) [] [])] mixed (by kernel_rfl) rfl rfl (pq tk rfl (.plain rfl) (pq tk rfl (.plain rfl) (pq tk rfl (.plain rfl) (pq tk rfl (.plain rfl) (pq tk rfl (.plain rfl) (.run (.plain rfl) (opG_q (ev_hidx (F := TRoute.pc) (l := a0) (n := ((w64 ((w64 (j69.2.1 - 1)) - (w64 ((uShr ((wu64 ((w64 (s71.1 + s71.2))))) 1))))))) rfl rfl rfl ty_s_api_Route ty_api_Route h76)) (.run (.plain rfl) (opG_q (ev_hloadN (F := TRoute.pc) (l := a0) (n := ((w64 ((w64 (j69.2.1 - 1)) - (w64 ((uShr ((wu64 ((w64 (s71.1 + s71.2))))) 1))))))) (j := 0) rfl rfl ty_api_Route rfl h78 rfl)) (pq tk rfl (.plain rfl) (pq tk rfl (.plain rfl) (.run (.plain rfl) (opG_q (ev_hidx (F := TRoute.pc) (l := a0) (n := ((w64 ((uShr ((wu64 ((w64 (s71.1 + s71.2))))) 1))))) rfl rfl rfl ty_s_api_Route ty_api_Route h80)) (.run (.plain rfl) (opG_q (ev_hloadN (F := TRoute.pc) (l := a0) (n := ((w64 ((uShr ((wu64 ((w64 (s71.1 + s71.2))))) 1))))) (j := 0) rfl rfl ty_api_Route rfl h82 rfl)) .nil))))))))))) rfl ?_
      refine il (fn := Try.f25) (args := [.agg [.s v77.Pattern, .s v77.Host, .i v77.Preference], .agg [.s v81.Pattern, .s v81.Host, .i v81.Preference]]) 600000 699999 [(0, .hs 90009000 0), (1, .i a1), (2, .i a2), (3, .i a3), (4, .fn (.func 25) [] []), (18, .i j69.1), (19, .i j69.2.1), (20, .i s71.1), (21, .i s71.2), (22, .i ((w64 (j69.2.1 - 1)))), (23, .i ((w64 ((uShr ((wu64 ((w64 (s71.1 + s71.2))))) 1)))))] rfl ⟨Try.func25, rfl, by kernel_rfl⟩ rfl rfl rfl fun T6 ds6 => ?_
      refine rn tk 18 rfl ?_
      refine ie tk [.i ((w64 (v77.Preference - v81.Preference)))] [(0, .hs 90009000 0), (1, .i a1), (2, .i a2), (3, .i a3), (4, .fn (.func 25) [] []), (18, .i j69.1), (19, .i j69.2.1), (20, .i s71.1), (21, .i s71.2), (22, .i ((w64 (j69.2.1 - 1)))), (23, .i ((w64 ((uShr ((wu64 ((w64 (s71.1 + s71.2))))) 1)))))] [(3, .cells [.s v81.Pattern, .s v81.Host, .i v81.Preference]), (2, .cells [.s v77.Pattern, .s v77.Host, .i v77.Preference]), (90009999, .hold (.hs 90009000 0) (T.getD 0 undef)), (90009000, .row 36 true 3 (List.map TRoute.pc a0))] (.inr rfl) rfl rfl rfl rfl (hO ?_)
      refine rn tk 4 rfl ?_
      refine ac 171 hr rfl (fun c83 hr => ?_) (fun c83 hr => ?_)
      ·
       refine rn tk 6 rfl ?_
       cases hr
       exact atc rfl rfl
      ·
       refine rn tk 5 rfl ?_
       cases hr
       exact atc rfl rfl
     ·
      refine rn tk 2 rfl ?_
      cases hr
      exact ato rfl rfl rfl rfl
    ·
     refine rn tk 10 rfl ?_
     refine jb hr (fun j84 => [(0, .hs 90009000 0), (1, .i a1), (3, .i a3), (4, .fn (.func 25) [] []), (18, .i j69.1), (20, .i b72), (24, .i j84.1)]) (fun j84 => [(90009000, .row 36 true 3 (List.map TRoute.pc j84.2)), (90009999, .hold (.hs 90009000 0) (T.getD 0 undef))]) (fun j84 hr => ?_) (fun j84 hr => ?_)
     ·
      refine jb hr (fun j85 => [(0, .hs 90009000 0), (1, .i a1), (2, .i a2), (3, .i a3), (4, .fn (.func 25) [] []), (18, .i j69.1), (20, .i b72), (24, .i j85.1), (185, .bo j85.2)]) (fun j85 => [(90009999, .hold (.hs 90009000 0) (T.getD 0 undef)), (90009000, .row 36 true 3 (List.map TRoute.pc a0))]) (fun j85 hr => ?_) (fun j85 hr => ?_)
      ·
       refine rn tk 5 rfl ?_
       refine bs 181 hr rfl (fun c86 hr => ?_) (fun c86 hr => ?_)
       ·
        refine rn tk 5 rfl ?_
        cases hr
        exact jn _ rfl rfl rfl
       ·
        refine rn tk 5 rfl ?_
        cases hr
        exact jn _ rfl rfl rfl
      ·
       refine ac 185 hr rfl (fun c87 hr => ?_) (fun c87 hr => ?_)
       ·
        refine rn tk 6 rfl ?_
        obtain ⟨v88, h89, hr⟩ := bind_some hr
        refine wo (opTo_callS (k := 191) (slices_rotateCmpFunc_api_Route_run a0 b72 a2 j85.1 v88 h89) rfl rfl (stoLe_cons rfl stoLe_nil)) rfl ?_
        refine rn tk 1 rfl ?_
        cases hr
        exact jn _ rfl rfl rfl
       ·
        refine rn tk 1 rfl ?_
        cases hr
        exact jn _ rfl rfl rfl
     ·
      refine jb hr (fun j90 => [(0, .hs 90009000 0), (3, .i a3), (4, .fn (.func 25) [] []), (18, .i j69.1), (24, .i j84.1)]) (fun j90 => [(90009000, .row 36 true 3 (List.map TRoute.pc j90)), (90009999, .hold (.hs 90009000 0) (T.getD 0 undef))]) (fun j90 hr => ?_) (fun j90 hr => ?_)
      ·
       refine jb hr (fun j91 => [(0, .hs 90009000 0), (1, .i a1), (3, .i a3), (4, .fn (.func 25) [] []), (18, .i j69.1), (20, .i b72), (24, .i j84.1), (199, .bo j91)]) (fun j91 => [(90009000, .row 36 true 3 (List.map TRoute.pc j84.2)), (90009999, .hold (.hs 90009000 0) (T.getD 0 undef))]) (fun j91 hr => ?_) (fun j91 hr => ?_)
       ·
        refine rn tk 5 rfl ?_
        refine bs 195 hr rfl (fun c92 hr => ?_) (fun c92 hr => ?_)
        ·
         refine rn tk 5 rfl ?_
         cases hr
         exact jn _ rfl rfl rfl
        ·
         refine rn tk 5 rfl ?_
         cases hr
         exact jn _ rfl rfl rfl
       ·
        refine ac 199 hr rfl (fun c93 hr => ?_) (fun c93 hr => ?_)
        ·
         refine rn tk 6 rfl ?_
         obtain ⟨v94, h95, hr⟩ := bind_some hr
         refine wo (opTo_callS (k := 205) (slices_symMergeCmpFunc_api_Route_r1_run j84.2 a1 b72 j69.1 v94 h95) rfl rfl (stoLe_cons rfl stoLe_nil)) rfl ?_
         refine rn tk 1 rfl ?_
         cases hr
         exact jn _ rfl rfl rfl
        ·
         refine rn tk 1 rfl ?_
         cases hr
         exact jn _ rfl rfl rfl
      ·
       refine jb hr (fun j96 => [(0, .hs 90009000 0), (3, .i a3), (4, .fn (.func 25) [] []), (18, .i j69.1), (24, .i j84.1), (213, .bo j96)]) (fun j96 => [(90009000, .row 36 true 3 (List.map TRoute.pc j90)), (90009999, .hold (.hs 90009000 0) (T.getD 0 undef))]) (fun j96 hr => ?_) (fun j96 hr => ?_)
       ·
        refine rn tk 5 rfl ?_
        refine bs 209 hr rfl (fun c97 hr => ?_) (fun c97 hr => ?_)
        ·
         refine rn tk 5 rfl ?_
         cases hr
         exact jn _ rfl rfl rfl
        ·
         refine rn tk 5 rfl ?_
         cases hr
         exact jn _ rfl rfl rfl
       ·
        refine ac 213 hr rfl (fun c98 hr => ?_) (fun c98 hr => ?_)
        ·
         refine rn tk 6 rfl ?_
         obtain ⟨v99, h100, hr⟩ := bind_some hr
         refine wo (opTo_callS (k := 219) (slices_symMergeCmpFunc_api_Route_r1_run j90 j69.1 j84.1 a3 v99 h100) rfl rfl (stoLe_cons rfl stoLe_nil)) rfl ?_
         refine rn tk 1 rfl ?_
         cases hr
         exact krS tk (.inl rfl) rfl rfl (stoLe_cons rfl (stoLe_cons rfl stoLe_nil))
        ·
         refine rn tk 1 rfl ?_
         cases hr
         exact krS tk (.inl rfl) rfl rfl (stoLe_cons rfl (stoLe_cons rfl stoLe_nil))
private theorem slices_symMergeCmpFunc_api_Route_r3_run (a0 : List TRoute) (a1 : Int) (a2 : Int) (a3 : Int) (r : List TRoute) (hr : slices_symMergeCmpFunc_api_Route_r3 a0 a1 a2 a3 = some r) : RunS Try.prog 43 [.hs 90009000 0, .i a1, .i a2, .i a3, .fn (.func 25) [] []] [(90009000, .row 36 true 3 (List.map TRoute.pc a0))] (.tup []) [(90009000, .row 36 true 3 (List.map TRoute.pc r))] 90009000 [] := by
 unfold slices_symMergeCmpFunc_api_Route_r3 at hr
 obtain ⟨hne, hr⟩ := rowne hr
 refine rfW (fn := Try.f43) (H := 90009999) ⟨Try.func43, rfl, by kernel_rfl⟩ rfl (fun _ => rfl) rfl rfl rfl (hne _) rfl rfl rfl rfl rfl fun g0 hg S sg T => ?_
 refine rn tk 9 rfl ?_
 refine ac 28 hr rfl (fun c1 hr => ?_) (fun c1 hr => ?_)
 ·
  refine rn tk 14 rfl ?_
  refine al1 hr (fun s2 => [(0, .hs 90009000 0), (1, .i a1), (4, .fn (.func 25) [] []), (10, .i s2.1), (11, .i s2.2)]) (fun s2 => [(90009999, .hold (.hs 90009000 0) (T.getD 0 undef)), (90009000, .row 36 true 3 (List.map TRoute.pc a0))]) (.exit 0) (fun b3 => [(0, .hs 90009000 0), (1, .i a1), (10, .i b3)]) (fun b3 => [(90009999, .hold (.hs 90009000 0) (T.getD 0 undef)), (90009000, .row 36 true 3 (List.map TRoute.pc a0))]) rfl rfl (fun s2 x4 hr => ?_) (fun b3 hr => ?_)
  ·
   unfold slices_symMergeCmpFunc_api_Route_r3_l1 at hr
   refine rn tk 8 rfl ?_
   refine ac 33 hr rfl (fun c5 hr => ?_) (fun c5 hr => ?_)
   ·
    refine rn tk 8 rfl ?_
    refine wq (ev_i64u64 rfl ty_int ty_uint) rfl rfl rfl ?_
    refine wq (ev_ushr rfl rfl (by decide)) rfl rfl rfl ?_
    refine wq (ev_u64i64 rfl ty_uint ty_int) rfl rfl rfl ?_
    refine rn tk 4 rfl ?_
    obtain ⟨v6, h7, hr⟩ := bind_some hr
    obtain ⟨v8, h9, hr⟩ := bind_some hr
    obtain ⟨v10, h11, hr⟩ := bind_some hr
    obtain ⟨v12, h13, hr⟩ := bind_some hr
    refine dr 9 [(48, .agg [.s v12.Pattern, .s v12.Host, .i v12.Preference]), (47, .hp 90009000 (Int.toNat a1) 0), (46, .i a1), (45, .hs 90009000 0), (44, .agg [.s v8.Pattern, .s v8.Host, .i v8.Preference]), (43, .hp 90009000 (Int.toNat ((w64 ((uShr ((wu64 ((w64 (s2.1 + s2.2))))) 1))))) 0), (42, .i ((w64 ((uShr ((wu64 ((w64 (s2.1 + s2.2))))) 1))))), (41, .hs 90009000 0), (40, .fn (.func 25) [] [])] mixed (by kernel_rfl) rfl rfl (pq tk rfl (.plain rfl) (pq tk rfl (.plain rfl) (pq tk rfl (.plain rfl) (.run (.plain rfl) (opG_q (ev_hidx (F := TRoute.pc) (l := a0) (n := ((w64 ((uShr ((wu64 ((w64 (s2.1 + s2.2))))) 1))))) rfl rfl rfl ty_s_api_Route ty_api_Route h7)) (.run (.plain rfl) (opG_q (ev_hloadN (F := TRoute.pc) (l := a0) (n := ((w64 ((uShr ((wu64 ((w64 (s2.1 + s2.2))))) 1))))) (j := 0) rfl rfl ty_api_Route rfl h9 rfl)) (pq tk rfl (.plain rfl) (pq tk rfl (.plain rfl) (.run (.plain rfl) (opG_q (ev_hidx (F := TRoute.pc) (l := a0) (n := a1) rfl rfl rfl ty_s_api_Route ty_api_Route h11)) (.run (.plain rfl) (opG_q (ev_hloadN (F := TRoute.pc) (l := a0) (n := a1) (j := 0) rfl rfl ty_api_Route rfl h13 rfl)) .nil))))))))) rfl ?_
    refine il (fn := Try.f25) (args := [.agg [.s v8.Pattern, .s v8.Host, .i v8.Preference], .agg [.s v12.Pattern, .s v12.Host, .i v12.Preference]]) 200000 299999 [(0, .hs 90009000 0), (1, .i a1), (4, .fn (.func 25) [] []), (10, .i s2.1), (11, .i s2.2), (12, .i ((w64 ((uShr ((wu64 ((w64 (s2.1 + s2.2))))) 1)))))] rfl ⟨Try.func25, rfl, by kernel_rfl⟩ rfl rfl rfl fun T2 ds2 => ?_
    refine rn tk 18 rfl ?_
    refine ie tk [.i ((w64 (v8.Preference - v12.Preference)))] [(0, .hs 90009000 0), (1, .i a1), (4, .fn (.func 25) [] []), (10, .i s2.1), (11, .i s2.2), (12, .i ((w64 ((uShr ((wu64 ((w64 (s2.1 + s2.2))))) 1)))))] [(3, .cells [.s v12.Pattern, .s v12.Host, .i v12.Preference]), (2, .cells [.s v8.Pattern, .s v8.Host, .i v8.Preference]), (90009999, .hold (.hs 90009000 0) (T.getD 0 undef)), (90009000, .row 36 true 3 (List.map TRoute.pc a0))] (.inr rfl) rfl rfl rfl rfl (hO ?_)
    refine rn tk 3 rfl ?_
    refine ac 50 hr rfl (fun c14 hr => ?_) (fun c14 hr => ?_)
    ·
     refine rn tk 6 rfl ?_
     cases hr
     exact atc rfl rfl
    ·
     refine rn tk 5 rfl ?_
     cases hr
     exact atc rfl rfl
   ·
    refine rn tk 2 rfl ?_
    cases hr
    exact ato rfl rfl rfl rfl
  ·
   refine rn tk 10 rfl ?_
   refine al1 hr (fun s15 => [(0, .hs 90009000 0), (10, .i b3), (13, .i s15.1)]) (fun s15 => [(90009999, .hold (.hs 90009000 0) (T.getD 0 undef)), (90009000, .row 36 true 3 (List.map TRoute.pc s15.2))]) (.exit 2) (fun b16 => []) (fun b16 => [(90009999, .hold (.hs 90009000 0) (T.getD 0 undef)), (90009000, .row 36 true 3 (List.map TRoute.pc b16))]) rfl rfl (fun s15 x17 hr => ?_) (fun b16 hr => ?_)
   ·
    unfold slices_symMergeCmpFunc_api_Route_r3_l2 at hr
    refine rn tk 9 rfl ?_
    refine ac 58 hr rfl (fun c18 hr => ?_) (fun c18 hr => ?_)
    ·
     refine rn tk 4 rfl ?_
     obtain ⟨v19, h20, hr⟩ := bind_some hr
     obtain ⟨v21, h22, hr⟩ := bind_some hr
     obtain ⟨v23, h24, hr⟩ := bind_some hr
     obtain ⟨v25, h26, hr⟩ := bind_some hr
     obtain ⟨v27, h28, hr⟩ := bind_some hr
     obtain ⟨v29, h30, hr⟩ := bind_some hr
     obtain ⟨v31, h32, hr⟩ := bind_some hr
     obtain ⟨v33, h34, hr⟩ := bind_some hr
     refine mz [some (.hs 90009000 0), some (.i s15.1), some (.hs 90009000 0), some (.i s15.1), some (.i ((w64 (s15.1 + 1)))), some (.hs 90009000 0), some (.i s15.1), some (.i ((w64 (s15.1 + 1)))), some (.hp 90009000 (Int.toNat ((w64 (s15.1 + 1)))) 0), some (.agg [.s v21.Pattern, .s v21.Host, .i v21.Preference]), some (.hs 90009000 0), some (.i s15.1), some (.hp 90009000 (Int.toNat s15.1) 0), some (.agg [.s v25.Pattern, .s v25.Host, .i v25.Preference]), some (.hp 90009000 (Int.toNat s15.1) 0), none, some (.hp 90009000 (Int.toNat ((w64 (s15.1 + 1)))) 0), none] (fun f s => [((bt 18 0), f, s), ((bt 18 32768), f, (Sto.upd s 90009000 (.row 36 true 3 (List.map TRoute.pc ((List.set s15.2 (Int.toNat s15.1) v21)))))), ((bt 18 163840), f, (Sto.upd (Sto.upd s 90009000 (.row 36 true 3 (List.map TRoute.pc ((List.set s15.2 (Int.toNat s15.1) v21))))) 90009000 (.row 36 true 3 (List.map TRoute.pc ((List.set ((List.set s15.2 (Int.toNat s15.1) v21)) (Int.toNat ((w64 (s15.1 + 1)))) v25))))))]) mixed (by kernel_rfl) (.cons (mn tk [8, 9, 12, 13, 14, 15] (by kernel_rfl) (.cons (.pure rfl rfl (opG_q (ev_hidx (F := TRoute.pc) (l := s15.2) (n := ((w64 (s15.1 + 1)))) rfl rfl rfl ty_s_api_Route ty_api_Route h20))) (.cons (.pure rfl rfl (opG_q (ev_hloadN (F := TRoute.pc) (l := s15.2) (n := ((w64 (s15.1 + 1)))) (j := 0) rfl rfl ty_api_Route rfl h22 rfl))) (.cons (.pure rfl rfl (opG_q (ev_hidx (F := TRoute.pc) (l := s15.2) (n := s15.1) rfl rfl rfl ty_s_api_Route ty_api_Route h24))) (.cons (.pure rfl rfl (opG_q (ev_hloadN (F := TRoute.pc) (l := s15.2) (n := s15.1) (j := 0) rfl rfl ty_api_Route rfl h26 rfl))) (.cons (.pure rfl rfl (opG_q (ev_hidx (F := TRoute.pc) (l := s15.2) (n := s15.1) rfl rfl rfl ty_s_api_Route ty_api_Route h28))) (.cons (mst 1 rfl (hv_hstore (F := TRoute.pc) (l := s15.2) (n := s15.1) (j := 0) (v := v29) (v' := v21) (pcs := [pS v21.Pattern, pS v21.Host, pI v21.Preference]) rfl rfl rfl ty_api_Route rfl h30 rfl rfl) (by kernel_rfl)) .nil))))))) (.cons (mn tk [16, 17] (by kernel_rfl) (.cons (.pure rfl rfl (opG_q (ev_hidx (F := TRoute.pc) (l := ((List.set s15.2 (Int.toNat s15.1) v21))) (n := ((w64 (s15.1 + 1)))) rfl rfl rfl ty_s_api_Route ty_api_Route h32))) (.cons (mst 2 rfl (hv_hstore (F := TRoute.pc) (l := ((List.set s15.2 (Int.toNat s15.1) v21))) (n := ((w64 (s15.1 + 1)))) (j := 0) (v := v33) (v' := v25) (pcs := [pS v25.Pattern, pS v25.Host, pI v25.Preference]) rfl rfl rfl ty_api_Route rfl h34 rfl rfl) (by kernel_rfl)) .nil))) (.cons (mf tk [] [(0, .hs 90009000 0), (10, .i b3), (13, .i s15.1)] (by kernel_rfl) .nil (fc rfl (fc rfl (fc rfl fn))) (hA ?_)) .nil)))
     refine rn tk 7 rfl ?_
     cases hr
     exact atc rfl rfl
    ·
     refine rn tk 2 rfl ?_
     cases hr
     exact ato rfl rfl rfl rfl
   ·
    refine rn tk 4 rfl ?_
    cases hr
    exact krS tk (.inr rfl) rfl rfl (stoLe_cons rfl (stoLe_cons rfl stoLe_nil))
 ·
  refine rn tk 11 rfl ?_
  refine ac 80 hr rfl (fun c35 hr => ?_) (fun c35 hr => ?_)
  ·
   refine rn tk 14 rfl ?_
   refine al1 hr (fun s36 => [(0, .hs 90009000 0), (2, .i a2), (4, .fn (.func 25) [] []), (14, .i s36.1), (15, .i s36.2)]) (fun s36 => [(90009999, .hold (.hs 90009000 0) (T.getD 0 undef)), (90009000, .row 36 true 3 (List.map TRoute.pc a0))]) (.exit 4) (fun b37 => [(0, .hs 90009000 0), (2, .i a2), (14, .i b37)]) (fun b37 => [(90009999, .hold (.hs 90009000 0) (T.getD 0 undef)), (90009000, .row 36 true 3 (List.map TRoute.pc a0))]) rfl rfl (fun s36 x38 hr => ?_) (fun b37 hr => ?_)
   ·
    unfold slices_symMergeCmpFunc_api_Route_r3_l3 at hr
    refine rn tk 8 rfl ?_
    refine ac 85 hr rfl (fun c39 hr => ?_) (fun c39 hr => ?_)
    ·
     refine rn tk 8 rfl ?_
     refine wq (ev_i64u64 rfl ty_int ty_uint) rfl rfl rfl ?_
     refine wq (ev_ushr rfl rfl (by decide)) rfl rfl rfl ?_
     refine wq (ev_u64i64 rfl ty_uint ty_int) rfl rfl rfl ?_
     refine rn tk 4 rfl ?_
     obtain ⟨v40, h41, hr⟩ := bind_some hr
     obtain ⟨v42, h43, hr⟩ := bind_some hr
     obtain ⟨v44, h45, hr⟩ := bind_some hr
     obtain ⟨v46, h47, hr⟩ := bind_some hr
     refine dr 9 [(100, .agg [.s v46.Pattern, .s v46.Host, .i v46.Preference]), (99, .hp 90009000 (Int.toNat ((w64 ((uShr ((wu64 ((w64 (s36.1 + s36.2))))) 1))))) 0), (98, .i ((w64 ((uShr ((wu64 ((w64 (s36.1 + s36.2))))) 1))))), (97, .hs 90009000 0), (96, .agg [.s v42.Pattern, .s v42.Host, .i v42.Preference]), (95, .hp 90009000 (Int.toNat a2) 0), (94, .i a2), (93, .hs 90009000 0), (92, .fn (.func 25) [] [])] mixed (by kernel_rfl) rfl rfl (pq tk rfl (.plain rfl) (pq tk rfl (.plain rfl) (pq tk rfl (.plain rfl) (.run (.plain rfl) (opG_q (ev_hidx (F := TRoute.pc) (l := a0) (n := a2) rfl rfl rfl ty_s_api_Route ty_api_Route h41)) (.run (.plain rfl) (opG_q (ev_hloadN (F := TRoute.pc) (l := a0) (n := a2) (j := 0) rfl rfl ty_api_Route rfl h43 rfl)) (pq tk rfl (.plain rfl) (pq tk rfl (.plain rfl) (.run (.plain rfl) (opG_q (ev_hidx (F := TRoute.pc) (l := a0) (n := ((w64 ((uShr ((wu64 ((w64 (s36.1 + s36.2))))) 1))))) rfl rfl rfl ty_s_api_Route ty_api_Route h45)) (.run (.plain rfl) (opG_q (ev_hloadN (F := TRoute.pc) (l := a0) (n := ((w64 ((uShr ((wu64 ((w64 (s36.1 + s36.2))))) 1))))) (j := 0) rfl rfl ty_api_Route rfl h47 rfl)) .nil))))))))) rfl ?_
     refine il (fn := Try.f25) (args := [.agg [.s v42.Pattern, .s v42.Host, .i v42.Preference], .agg [.s v46.Pattern, .s v46.Host, .i v46.Preference]]) 400000 499999 [(0, .hs 90009000 0), (2, .i a2), (4, .fn (.func 25) [] []), (14, .i s36.1), (15, .i s36.2), (16, .i ((w64 ((uShr ((wu64 ((w64 (s36.1 + s36.2))))) 1)))))] rfl ⟨Try.func25, rfl, by kernel_rfl⟩ rfl rfl rfl fun T4 ds4 => ?_
     refine rn tk 18 rfl ?_
     refine ie tk [.i ((w64 (v42.Preference - v46.Preference)))] [(0, .hs 90009000 0), (2, .i a2), (4, .fn (.func 25) [] []), (14, .i s36.1), (15, .i s36.2), (16, .i ((w64 ((uShr ((wu64 ((w64 (s36.1 + s36.2))))) 1)))))] [(3, .cells [.s v46.Pattern, .s v46.Host, .i v46.Preference]), (2, .cells [.s v42.Pattern, .s v42.Host, .i v42.Preference]), (90009999, .hold (.hs 90009000 0) (T.getD 0 undef)), (90009000, .row 36 true 3 (List.map TRoute.pc a0))] (.inr rfl) rfl rfl rfl rfl (hO ?_)
     refine rn tk 4 rfl ?_
     refine ac 103 hr rfl (fun c48 hr => ?_) (fun c48 hr => ?_)
     ·
      refine rn tk 6 rfl ?_
      cases hr
      exact atc rfl rfl
     ·
      refine rn tk 5 rfl ?_
      cases hr
      exact atc rfl rfl
    ·
     refine rn tk 2 rfl ?_
     cases hr
     exact ato rfl rfl rfl rfl
   ·
    refine rn tk 10 rfl ?_
    refine al1 hr (fun s49 => [(0, .hs 90009000 0), (14, .i b37), (17, .i s49.1)]) (fun s49 => [(90009999, .hold (.hs 90009000 0) (T.getD 0 undef)), (90009000, .row 36 true 3 (List.map TRoute.pc s49.2))]) (.exit 6) (fun b50 => []) (fun b50 => [(90009999, .hold (.hs 90009000 0) (T.getD 0 undef)), (90009000, .row 36 true 3 (List.map TRoute.pc b50))]) rfl rfl (fun s49 x51 hr => ?_) (fun b50 hr => ?_)
    ·
     unfold slices_symMergeCmpFunc_api_Route_r3_l4 at hr
     refine rn tk 8 rfl ?_
     refine ac 110 hr rfl (fun c52 hr => ?_) (fun c52 hr => ?_)
     ·
      refine rn tk 4 rfl ?_
      obtain ⟨v53, h54, hr⟩ := bind_some hr
      obtain ⟨v55, h56, hr⟩ := bind_some hr
      obtain ⟨v57, h58, hr⟩ := bind_some hr
      obtain ⟨v59, h60, hr⟩ := bind_some hr
      obtain ⟨v61, h62, hr⟩ := bind_some hr
      obtain ⟨v63, h64, hr⟩ := bind_some hr
      obtain ⟨v65, h66, hr⟩ := bind_some hr
      obtain ⟨v67, h68, hr⟩ := bind_some hr
      refine mz [some (.hs 90009000 0), some (.i s49.1), some (.hs 90009000 0), some (.i s49.1), some (.i ((w64 (s49.1 - 1)))), some (.hs 90009000 0), some (.i s49.1), some (.i ((w64 (s49.1 - 1)))), some (.hp 90009000 (Int.toNat ((w64 (s49.1 - 1)))) 0), some (.agg [.s v55.Pattern, .s v55.Host, .i v55.Preference]), some (.hs 90009000 0), some (.i s49.1), some (.hp 90009000 (Int.toNat s49.1) 0), some (.agg [.s v59.Pattern, .s v59.Host, .i v59.Preference]), some (.hp 90009000 (Int.toNat s49.1) 0), none, some (.hp 90009000 (Int.toNat ((w64 (s49.1 - 1)))) 0), none] (fun f s => [((bt 18 0), f, s), ((bt 18 32768), f, (Sto.upd s 90009000 (.row 36 true 3 (List.map TRoute.pc ((List.set s49.2 (Int.toNat s49.1) v55)))))), ((bt 18 163840), f, (Sto.upd (Sto.upd s 90009000 (.row 36 true 3 (List.map TRoute.pc ((List.set s49.2 (Int.toNat s49.1) v55))))) 90009000 (.row 36 true 3 (List.map TRoute.pc ((List.set ((List.set s49.2 (Int.toNat s49.1) v55)) (Int.toNat ((w64 (s49.1 - 1)))) v59))))))]) mixed (by kernel_rfl) (.cons (mn tk [8, 9, 12, 13, 14, 15] (by kernel_rfl) (.cons (.pure rfl rfl (opG_q (ev_hidx (F := TRoute.pc) (l := s49.2) (n := ((w64 (s49.1 - 1)))) rfl rfl rfl ty_s_api_Route ty_api_Route h54))) (.cons (.pure rfl rfl (opG_q (ev_hloadN (F := TRoute.pc) (l := s49.2) (n := ((w64 (s49.1 - 1)))) (j := 0) rfl rfl ty_api_Route rfl h56 rfl))) (.cons (.pure rfl rfl (opG_q (ev_hidx (F := TRoute.pc) (l := s49.2) (n := s49.1) rfl rfl rfl ty_s_api_Route ty_api_Route h58))) (.cons (.pure rfl rfl (opG_q (ev_hloadN (F := TRoute.pc) (l := s49.2) (n := s49.1) (j := 0) rfl rfl ty_api_Route rfl h60 rfl))) (.cons (.pure rfl rfl (opG_q (ev_hidx (F := TRoute.pc) (l := s49.2) (n := s49.1) rfl rfl rfl ty_s_api_Route ty_api_Route h62))) (.cons (mst 1 rfl (hv_hstore (F := TRoute.pc) (l := s49.2) (n := s49.1) (j := 0) (v := v63) (v' := v55) (pcs := [pS v55.Pattern, pS v55.Host, pI v55.Preference]) rfl rfl rfl ty_api_Route rfl h64 rfl rfl) (by kernel_rfl)) .nil))))))) (.cons (mn tk [16, 17] (by kernel_rfl) (.cons (.pure rfl rfl (opG_q (ev_hidx (F := TRoute.pc) (l := ((List.set s49.2 (Int.toNat s49.1) v55))) (n := ((w64 (s49.1 - 1)))) rfl rfl rfl ty_s_api_Route ty_api_Route h66))) (.cons (mst 2 rfl (hv_hstore (F := TRoute.pc) (l := ((List.set s49.2 (Int.toNat s49.1) v55))) (n := ((w64 (s49.1 - 1)))) (j := 0) (v := v67) (v' := v59) (pcs := [pS v59.Pattern, pS v59.Host, pI v59.Preference]) rfl rfl rfl ty_api_Route rfl h68 rfl rfl) (by kernel_rfl)) .nil))) (.cons (mf tk [] [(0, .hs 90009000 0), (14, .i b37), (17, .i s49.1)] (by kernel_rfl) .nil (fc rfl (fc rfl (fc rfl fn))) (hA ?_)) .nil)))
      refine rn tk 7 rfl ?_
      cases hr
      exact atc rfl rfl
     ·
      refine rn tk 2 rfl ?_
      cases hr
      exact ato rfl rfl rfl rfl
    ·
     refine rn tk 4 rfl ?_
     cases hr
     exact krS tk (.inr rfl) rfl rfl (stoLe_cons rfl (stoLe_cons rfl stoLe_nil))
  ·
   refine rn tk 7 rfl ?_
   refine wq (ev_i64u64 rfl ty_int ty_uint) rfl rfl rfl ?_
   refine wq (ev_ushr rfl rfl (by decide)) rfl rfl rfl ?_
   refine wq (ev_u64i64 rfl ty_uint ty_int) rfl rfl rfl ?_
   refine rn tk 17 rfl ?_
   refine jb hr (fun j69 => [(0, .hs 90009000 0), (1, .i a1), (2, .i a2), (3, .i a3), (4, .fn (.func 25) [] []), (18, .i j69.1), (19, .i j69.2.1), (20, .i j69.2.2.1), (21, .i j69.2.2.2)]) (fun j69 => [(90009999, .hold (.hs 90009000 0) (T.getD 0 undef)), (90009000, .row 36 true 3 (List.map TRoute.pc a0))]) (fun j69 hr => ?_) (fun j69 hr => ?_)
   ·
    refine rn tk 7 rfl ?_
    refine ac 140 hr rfl (fun c70 hr => ?_) (fun c70 hr => ?_)
    ·
     refine rn tk 12 rfl ?_
     cases hr
     exact jn _ rfl rfl rfl
    ·
     refine rn tk 10 rfl ?_
     cases hr
     exact jn _ rfl rfl rfl
   ·
    refine rn tk 9 rfl ?_
    refine al1 hr (fun s71 => [(0, .hs 90009000 0), (1, .i a1), (2, .i a2), (3, .i a3), (4, .fn (.func 25) [] []), (18, .i j69.1), (19, .i j69.2.1), (20, .i s71.1), (21, .i s71.2), (22, .i ((w64 (j69.2.1 - 1))))]) (fun s71 => [(90009999, .hold (.hs 90009000 0) (T.getD 0 undef)), (90009000, .row 36 true 3 (List.map TRoute.pc a0))]) (.exit 8) (fun b72 => [(0, .hs 90009000 0), (1, .i a1), (2, .i a2), (3, .i a3), (4, .fn (.func 25) [] []), (18, .i j69.1), (19, .i j69.2.1), (20, .i b72)]) (fun b72 => [(90009999, .hold (.hs 90009000 0) (T.getD 0 undef)), (90009000, .row 36 true 3 (List.map TRoute.pc a0))]) rfl rfl (fun s71 x73 hr => ?_) (fun b72 hr => ?_)
    ·
     unfold slices_symMergeCmpFunc_api_Route_r3_l5 at hr
     refine rn tk 8 rfl ?_
     refine ac 151 hr rfl (fun c74 hr => ?_) (fun c74 hr => ?_)
     ·
      refine rn tk 8 rfl ?_
      refine wq (ev_i64u64 rfl ty_int ty_uint) rfl rfl rfl ?_
      refine wq (ev_ushr rfl rfl (by decide)) rfl rfl rfl ?_
      refine wq (ev_u64i64 rfl ty_uint ty_int) rfl rfl rfl ?_
      refine rn tk 4 rfl ?_
      obtain ⟨v75, h76, hr⟩ := bind_some hr
      obtain ⟨v77, h78, hr⟩ := bind_some hr
      obtain ⟨v79, h80, hr⟩ := bind_some hr
      obtain ⟨v81, h82, hr⟩ := bind_some hr
      refine dr 11 [(168, .agg [.s v81.Pattern, .s v81.Host, .i v81.Preference]), (167, .hp 90009000 (Int.toNat ((w64 ((uShr ((wu64 ((w64 (s71.1 + s71.2))))) 1))))) 0), (166, .i ((w64 ((uShr ((wu64 ((w64 (s71.1 + s71.2))))) 1))))), (165, .hs 90009000 0), (164, .agg [.s v77.Pattern, .s v77.Host, .i v77.Preference]), (163, .hp 90009000 (Int.toNat ((w64 ((w64 (j69.2.1 - 1)) - (w64 ((uShr ((wu64 ((w64 (s71.1 + s71.2))))) 1))))))) 0), (162, .i ((w64 ((w64 (j69.2.1 - 1)) - (w64 ((uShr ((wu64 ((w64 (s71.1 + s71.2))))) 1))))))), (161, .i ((w64 ((uShr ((wu64 ((w64 (s71.1 + s71.2))))) 1))))), (160, .i ((w64 (j69.2.1 - 1)))), (159, .hs 90009000 0), (158, .fn (.func 25) [] [])] mixed (by kernel_rfl) rfl rfl (pq tk rfl (.plain rfl) (pq tk rfl (.plain rfl) (pq tk rfl (.plain rfl) (pq tk rfl (.plain rfl) (pq tk rfl (.plain rfl) (.run (.plain rfl) (opG_q (ev_hidx (F := TRoute.pc) (l := a0) (n := ((w64 ((w64 (j69.2.1 - 1)) - (w64 ((uShr ((wu64 ((w64 (s71.1 + s71.2))))) 1))))))) rfl rfl rfl ty_s_api_Route ty_api_Route h76)) (.run (.plain rfl) (opG_q (ev_hloadN (F := TRoute.pc) (l := a0) (n := ((w64 ((w64 (j69.2.1 - 1)) - (w64 ((uShr ((wu64 ((w64 (s71.1 + s71.2))))) 1))))))) (j := 0) rfl rfl ty_api_Route rfl h78 rfl)) (pq tk rfl (.plain rfl) (pq tk rfl (.plain rfl) (.run (.plain rfl) (opG_q (ev_hidx (F := TRoute.pc) (l := a0) (n := ((w64 ((uShr ((wu64 ((w64 (s71.1 + s71.2))))) 1))))) rfl rfl rfl ty_s_api_Route ty_api_Route h80)) (.run (.plain rfl) (opG_q (ev_hloadN (F := TRoute.pc) (l := a0) (n := ((w64 ((uShr ((wu64 ((w64 (s71.1 + s71.2))))) 1))))) (j := 0) rfl rfl ty_api_Route rfl h82 rfl)) .nil))))))))))) rfl ?_
      refine il (fn := Try.f25) (args := [.agg [.s v77.Pattern, .s v77.Host, .i v77.Preference], .agg [.s v81.Pattern, .s v81.Host, .i v81.Preference]]) 600000 699999 [(0, .hs 90009000 0), (1, .i a1), (2, .i a2), (3, .i a3), (4, .fn (.func 25) [] []), (18, .i j69.1), (19, .i j69.2.1), (20, .i s71.1), (21, .i s71.2), (22, .i ((w64 (j69.2.1 - 1)))), (23, .i ((w64 ((uShr ((wu64 ((w64 (s71.1 + s71.2))))) 1)))))] rfl ⟨Try.func25, rfl, by kernel_rfl⟩ rfl rfl rfl fun T6 ds6 => ?_
      refine rn tk 18 rfl ?_
      refine ie tk [.i ((w64 (v77.Preference - v81.Preference)))] [(0, .hs 90009000 0), (1, .i a1), (2, .i a2), (3, .i a3), (4, .fn (.func 25) [] []), (18, .i j69.1), (19, .i j69.2.1), (20, .i s71.1), (21, .i s71.2), (22, .i ((w64 (j69.2.1 - 1)))), (23, .i ((w64 ((uShr ((wu64 ((w64 (s71.1 + s71.2))))) 1)))))] [(3, .cells [.s v81.Pattern, .s v81.Host, .i v81.Preference]), (2, .cells [.s v77.Pattern, .s v77.Host, .i v77.Preference]), (90009999, .hold (.hs 90009000 0) (T.getD 0 undef)), (90009000, .row 36 true 3 (List.map TRoute.pc a0))] (.inr rfl) rfl rfl rfl rfl (hO ?_)
      refine rn tk 4 rfl ?_
      refine ac 171 hr rfl (fun c83 hr => ?_) (fun c83 hr => ?_)
      ·
       refine rn tk 6 rfl ?_
       cases hr
       exact atc rfl rfl
      ·
       refine rn tk 5 rfl ?_
       cases hr
       exact atc rfl rfl
     ·
      refine rn tk 2 rfl ?_
      cases hr
      exact ato rfl rfl rfl rfl
    ·
     refine rn tk 10 rfl ?_
     refine jb hr (fun j84 => [(0, .hs 90009000 0), (1, .i a1), (3, .i a3), (4, .fn (.func 25) [] []), (18, .i j69.1), (20, .i b72), (24, .i j84.1)]) (fun j84 => [(90009000, .row 36 true 3 (List.map TRoute.pc j84.2)), (90009999, .hold (.hs 90009000 0) (T.getD 0 undef))]) (fun j84 hr => ?_) (fun j84 hr => ?_)
     ·
      refine jb hr (fun j85 => [(0, .hs 90009000 0), (1, .i a1), (2, .i a2), (3, .i a3), (4, .fn (.func 25) [] []), (18, .i j69.1), (20, .i b72), (24, .i j85.1), (185, .bo j85.2)]) (fun j85 => [(90009999, .hold (.hs 90009000 0) (T.getD 0 undef)), (90009000, .row 36 true 3 (List.map TRoute.pc a0))]) (fun j85 hr => ?_) (fun j85 hr => ?_)
      ·
       refine rn tk 5 rfl ?_
       refine bs 181 hr rfl (fun c86 hr => ?_) (fun c86 hr => ?_)
       ·
        refine rn tk 5 rfl ?_
        cases hr
        exact jn _ rfl rfl rfl
       ·
        refine rn tk 5 rfl ?_
        cases hr
        exact jn _ rfl rfl rfl
      ·
       refine ac 185 hr rfl (fun c87 hr => ?_) (fun c87 hr => ?_)
       ·
        refine rn tk 6 rfl ?_
        obtain ⟨v88, h89, hr⟩ := bind_some hr
        refine wo (opTo_callS (k := 191) (slices_rotateCmpFunc_api_Route_run a0 b72 a2 j85.1 v88 h89) rfl rfl (stoLe_cons rfl stoLe_nil)) rfl ?_
        refine rn tk 1 rfl ?_
        cases hr
        exact jn _ rfl rfl rfl
       ·
        refine rn tk 1 rfl ?_
        cases hr
        exact jn _ rfl rfl rfl
     ·
      refine jb hr (fun j90 => [(0, .hs 90009000 0), (3, .i a3), (4, .fn (.func 25) [] []), (18, .i j69.1), (24, .i j84.1)]) (fun j90 => [(90009000, .row 36 true 3 (List.map TRoute.pc j90)), (90009999, .hold (.hs 90009000 0) (T.getD 0 undef))]) (fun j90 hr => ?_) (fun j90 hr => ?_)
      ·
       refine jb hr (fun j91 => [(0, .hs 90009000 0), (1, .i a1), (3, .i a3), (4, .fn (.func 25) [] []), (18, .i j69.1), (20, .i b72), (24, .i j84.1), (199, .bo j91)]) (fun j91 => [(90009000, .row 36 true 3 (List.map TRoute.pc j84.2)), (90009999, .hold (.hs 90009000 0) (T.getD 0 undef))]) (fun j91 hr => ?_) (fun j91 hr => ?_)
       ·
        refine rn tk 5 rfl ?_
        refine bs 195 hr rfl (fun c92 hr => ?_) (fun c92 hr => ?_)
        ·
         refine rn tk 5 rfl ?_
         cases hr
         exact jn _ rfl rfl rfl
        ·
         refine rn tk 5 rfl ?_
         cases hr
         exact jn _ rfl rfl rfl
       ·
        refine ac 199 hr rfl (fun c93 hr => ?_) (fun c93 hr => ?_)
        ·
         refine rn tk 6 rfl ?_
         obtain ⟨v94, h95, hr⟩ := bind_some hr
         refine wo (opTo_callS (k := 205) (slices_symMergeCmpFunc_api_Route_r2_run j84.2 a1 b72 j69.1 v94 h95) rfl rfl (stoLe_cons rfl stoLe_nil)) rfl ?_
         refine rn tk 1 rfl ?_
         cases hr
         exact jn _ rfl rfl rfl
        ·
         refine rn tk 1 rfl ?_
         cases hr
         exact jn _ rfl rfl rfl
      ·
       refine jb hr (fun j96 => [(0, .hs 90009000 0), (3, .i a3), (4, .fn (.func 25) [] []), (18, .i j69.1), (24, .i j84.1), (213, .bo j96)]) (fun j96 => [(90009000, .row 36 true 3 (List.map TRoute.pc j90)), (90009999, .hold (.hs 90009000 0) (T.getD 0 undef))]) (fun j96 hr => ?_) (fun j96 hr => ?_)
       ·
        refine rn tk 5 rfl ?_
        refine bs 209 hr rfl (fun c97 hr => ?_) (fun c97 hr => ?_)
        ·
         refine rn tk 5 rfl ?_
         cases hr
         exact jn _ rfl rfl rfl
        ·
         refine rn tk 5 rfl ?_
         cases hr
         exact jn _ rfl rfl rfl
       ·
        refine ac 213 hr rfl (fun c98 hr => ?_) (fun c98 hr => ?_)
        ·
         refine rn tk 6 rfl ?_
         obtain ⟨v99, h100, hr⟩ := bind_some hr
         refine wo (opTo_callS (k := 219) (slices_symMergeCmpFunc_api_Route_r2_run j90 j69.1 j84.1 a3 v99 h100) rfl rfl (stoLe_cons rfl stoLe_nil)) rfl ?_
         refine rn tk 1 rfl ?_
         cases hr
         exact krS tk (.inl rfl) rfl rfl (stoLe_cons rfl (stoLe_cons rfl stoLe_nil))
        ·
         refine rn tk 1 rfl ?_
         cases hr
         exact krS tk (.inl rfl) rfl rfl (stoLe_cons rfl (stoLe_cons rfl stoLe_nil))
private theorem slices_symMergeCmpFunc_api_Route_r4_run (a0 : List TRoute) (a1 : Int) (a2 : Int) (a3 : Int) (r : List TRoute) (hr : slices_symMergeCmpFunc_api_Route_r4 a0 a1 a2 a3 = some r) : RunS Try.prog 43 [.hs 90009000 0, .i a1, .i a2, .i a3, .fn (.func 25) [] []] [(90009000, .row 36 true 3 (List.map TRoute.pc a0))] (.tup []) [(90009000, .row 36 true 3 (List.map TRoute.pc r))] 90009000 [] := by
 unfold slices_symMergeCmpFunc_api_Route_r4 at hr
 obtain ⟨hne, hr⟩ := rowne hr
 refine rfW (fn := Try.f43) (H := 90009999) ⟨Try.func43, rfl, by kernel_rfl⟩ rfl (fun _ => rfl) rfl rfl rfl (hne _) rfl rfl rfl rfl rfl fun g0 hg S sg T => ?_
 refine rn tk 9 rfl ?_
 refine ac 28 hr rfl (fun c1 hr => ?_) (fun c1 hr => ?_)
 ·
  refine rn tk 14 rfl ?_
  refine al1 hr (fun s2 => [(0, .hs 90009000 0), (1, .i a1), (4, .fn (.func 25) [] []), (10, .i s2.1), (11, .i s2.2)]) (fun s2 => [(90009999, .hold (.hs 90009000 0) (T.getD 0 undef)), (90009000, .row 36 true 3 (List.map TRoute.pc a0))]) (.exit 0) (fun b3 => [(0, .hs 90009000 0), (1, .i a1), (10, .i b3)]) (fun b3 => [(90009999, .hold (.hs 90009000 0) (T.getD 0 undef)), (90009000, .row 36 true 3 (List.map TRoute.pc a0))]) rfl rfl (fun s2 x4 hr => ?_) (fun b3 hr => ?_)
  ·
   unfold slices_symMergeCmpFunc_api_Route_r4_l1 at hr
   refine rn tk 8 rfl ?_
   refine ac 33 hr rfl (fun c5 hr => ?_) (fun c5 hr => ?_)
   ·
    refine rn tk 8 rfl ?_
    refine wq (ev_i64u64 rfl ty_int ty_uint) rfl rfl rfl ?_
    refine wq (ev_ushr rfl rfl (by decide)) rfl rfl rfl ?_
    refine wq (ev_u64i64 rfl ty_uint ty_int) rfl rfl rfl ?_
    refine rn tk 4 rfl ?_
    obtain ⟨v6, h7, hr⟩ := bind_some hr
    obtain ⟨v8, h9, hr⟩ := bind_some hr
    obtain ⟨v10, h11, hr⟩ := bind_some hr
    obtain ⟨v12, h13, hr⟩ := bind_some hr
    refine dr 9 [(48, .agg [.s v12.Pattern, .s v12.Host, .i v12.Preference]), (47, .hp 90009000 (Int.toNat a1) 0), (46, .i a1), (45, .hs 90009000 0), (44, .agg [.s v8.Pattern, .s v8.Host, .i v8.Preference]), (43, .hp 90009000 (Int.toNat ((w64 ((uShr ((wu64 ((w64 (s2.1 + s2.2))))) 1))))) 0), (42, .i ((w64 ((uShr ((wu64 ((w64 (s2.1 + s2.2))))) 1))))), (41, .hs 90009000 0), (40, .fn (.func 25) [] [])] mixed (by kernel_rfl) rfl rfl (pq tk rfl (.plain rfl) (pq tk rfl (.plain rfl) (pq tk rfl (.plain rfl) (.run (.plain rfl) (opG_q (ev_hidx (F := TRoute.pc) (l := a0) (n := ((w64 ((uShr ((wu64 ((w64 (s2.1 + s2.2))))) 1))))) rfl rfl rfl ty_s_api_Route ty_api_Route h7)) (.run (.plain rfl) (opG_q (ev_hloadN (F := TRoute.pc) (l := a0) (n := ((w64 ((uShr ((wu64 ((w64 (s2.1 + s2.2))))) 1))))) (j := 0) rfl rfl ty_api_Route rfl h9 rfl)) (pq tk rfl (.plain rfl) (pq tk rfl (.plain rfl) (.run (.plain rfl) (opG_q (ev_hidx (F := TRoute.pc) (l := a0) (n := a1) rfl rfl rfl ty_s_api_Route ty_api_Route h11)) (.run (.plain rfl) (opG_q (ev_hloadN (F := TRoute.pc) (l := a0) (n := a1) (j := 0) rfl rfl ty_api_Route rfl h13 rfl)) .nil))))))))) rfl ?_
    refine il (fn := Try.f25) (args := [.agg [.s v8.Pattern, .s v8.Host, .i v8.Preference], .agg [.s v12.Pattern, .s v12.Host, .i v12.Preference]]) 200000 299999 [(0, .hs 90009000 0), (1, .i a1), (4, .fn (.func 25) [] []), (10, .i s2.1), (11, .i s2.2), (12, .i ((w64 ((uShr ((wu64 ((w64 (s2.1 + s2.2))))) 1)))))] rfl ⟨Try.func25, rfl, by kernel_rfl⟩ rfl rfl rfl fun T2 ds2 => ?_
    refine rn tk 18 rfl ?_
    refine ie tk [.i ((w64 (v8.Preference - v12.Preference)))] [(0, .hs 90009000 0), (1, .i a1), (4, .fn (.func 25) [] []), (10, .i s2.1), (11, .i s2.2), (12, .i ((w64 ((uShr ((wu64 ((w64 (s2.1 + s2.2))))) 1)))))] [(3, .cells [.s v12.Pattern, .s v12.Host, .i v12.Preference]), (2, .cells [.s v8.Pattern, .s v8.Host, .i v8.Preference]), (90009999, .hold (.hs 90009000 0) (T.getD 0 undef)), (90009000, .row 36 true 3 (List.map TRoute.pc a0))] (.inr rfl) rfl rfl rfl rfl (hO ?_)
    refine rn tk 3 rfl ?_
    refine ac 50 hr rfl (fun c14 hr => ?_) (fun c14 hr => ?_)
    ·
     refine rn tk 6 rfl ?_
     cases hr
     exact atc rfl rfl
    ·
     refine rn tk 5 rfl ?_
     cases hr
     exact atc rfl rfl
   ·
    refine rn tk 2 rfl ?_
    cases hr
    exact ato rfl rfl rfl rfl
  ·
   refine rn tk 10 rfl ?_
   refine al1 hr (fun s15 => [(0, .hs 90009000 0), (10, .i b3), (13, .i s15.1)]) (fun s15 => [(90009999, .hold (.hs 90009000 0) (T.getD 0 undef)), (90009000, .row 36 true 3 (List.map TRoute.pc s15.2))]) (.exit 2) (fun b16 => []) (fun b16 => [(90009999, .hold (.hs 90009000 0) (T.getD 0 undef)), (90009000, .row 36 true 3 (List.map TRoute.pc b16))]) rfl rfl (fun s15 x17 hr => ?_) (fun b16 hr => ?_)
   ·
    unfold slices_symMergeCmpFunc_api_Route_r4_l2 at hr
    refine rn tk 9 rfl ?_
    refine ac 58 hr rfl (fun c18 hr => ?_) (fun c18 hr => ?_)
    ·
     refine rn tk 4 rfl ?_
     obtain ⟨v19, h20, hr⟩ := bind_some hr
     obtain ⟨v21, h22, hr⟩ := bind_some hr
     obtain ⟨v23, h24, hr⟩ := bind_some hr
     obtain ⟨v25, h26, hr⟩ := bind_some hr
     obtain ⟨v27, h28, hr⟩ := bind_some hr
     obtain ⟨v29, h30, hr⟩ := bind_some hr
     obtain ⟨v31, h32, hr⟩ := bind_some hr
     obtain ⟨v33, h34, hr⟩ := bind_some hr
     refine mz [some (.hs 90009000 0), some (.i s15.1), some (.hs 90009000 0), some (.i s15.1), some (.i ((w64 (s15.1 + 1)))), some (.hs 90009000 0), some (.i s15.1), some (.i ((w64 (s15.1 + 1)))), some (.hp 90009000 (Int.toNat ((w64 (s15.1 + 1)))) 0), some (.agg [.s v21.Pattern, .s v21.Host, .i v21.Preference]), some (.hs 90009000 0), some (.i s15.1), some (.hp 90009000 (Int.toNat s15.1) 0), some (.agg [.s v25.Pattern, .s v25.Host, .i v25.Preference]), some (.hp 90009000 (Int.toNat s15.1) 0), none, some (.hp 90009000 (Int.toNat ((w64 (s15.1 + 1)))) 0), none] (fun f s => [((bt 18 0), f, s), ((bt 18 32768), f, (Sto.upd s 90009000 (.row 36 true 3 (List.map TRoute.pc ((List.set s15.2 (Int.toNat s15.1) v21)))))), ((bt 18 163840), f, (Sto.upd (Sto.upd s 90009000 (.row 36 true 3 (List.map TRoute.pc ((List.set s15.2 (Int.toNat s15.1) v21))))) 90009000 (.row 36 true 3 (List.map TRoute.pc ((List.set ((List.set s15.2 (Int.toNat s15.1) v21)) (Int.toNat ((w64 (s15.1 + 1)))) v25))))))]) mixed (by kernel_rfl) (.cons (mn tk [8, 9, 12, 13, 14, 15] (by kernel_rfl) (.cons (.pure rfl rfl (opG_q (ev_hidx (F := TRoute.pc) (l := s15.2) (n := ((w64 (s15.1 + 1)))) rfl rfl rfl ty_s_api_Route ty_api_Route h20))) (.cons (.pure rfl rfl (opG_q (ev_hloadN (F := TRoute.pc) (l := s15.2) (n := ((w64 (s15.1 + 1)))) (j := 0) rfl rfl ty_api_Route rfl h22 rfl))) (.cons (.pure rfl rfl (opG_q (ev_hidx (F := TRoute.pc) (l := s15.2) (n := s15.1) rfl rfl rfl ty_s_api_Route ty_api_Route h24))) (.cons (.pure rfl rfl (opG_q (ev_hloadN (F := TRoute.pc) (l := s15.2) (n := s15.1) (j := 0) rfl rfl ty_api_Route rfl h26 rfl))) (.cons (.pure rfl rfl (opG_q (ev_hidx (F := TRoute.pc) (l := s15.2) (n := s15.1) rfl rfl rfl ty_s_api_Route ty_api_Route h28))) (.cons (mst 1 rfl (hv_hstore (F := TRoute.pc) (l := s15.2) (n := s15.1) (j := 0) (v := v29) (v' := v21) (pcs := [pS v21.Pattern, pS v21.Host, pI v21.Preference]) rfl rfl rfl ty_api_Route rfl h30 rfl rfl) (by kernel_rfl)) .nil))))))) (.cons (mn tk [16, 17] (by kernel_rfl) (.cons (.pure rfl rfl (opG_q (ev_hidx (F := TRoute.pc) (l := ((List.set s15.2 (Int.toNat s15.1) v21))) (n := ((w64 (s15.1 + 1)))) rfl rfl rfl ty_s_api_Route ty_api_Route h32))) (.cons (mst 2 rfl (hv_hstore (F := TRoute.pc) (l := ((List.set s15.2 (Int.toNat s15.1) v21))) (n := ((w64 (s15.1 + 1)))) (j := 0) (v := v33) (v' := v25) (pcs := [pS v25.Pattern, pS v25.Host, pI v25.Preference]) rfl rfl rfl ty_api_Route rfl h34 rfl rfl) (by kernel_rfl)) .nil))) (.cons (mf tk [] [(0, .hs 90009000 0), (10, .i b3), (13, .i s15.1)] (by kernel_rfl) .nil (fc rfl (fc rfl (fc rfl fn))) (hA ?_)) .nil)))
     refine rn tk 7 rfl ?_
     cases hr
     exact atc rfl rfl
    ·
     refine rn tk 2 rfl ?_
     cases hr
     exact ato rfl rfl rfl rfl
   ·
    refine rn tk 4 rfl ?_
    cases hr
    exact krS tk (.inr rfl) rfl rfl (stoLe_cons rfl (stoLe_cons rfl stoLe_nil))
 ·
  refine rn tk 11 rfl ?_
  refine ac 80 hr rfl (fun c35 hr => ?_) (fun c35 hr => ?_)
  ·
   refine rn tk 14 rfl ?_
   refine al1 hr (fun s36 => [(0, .hs 90009000 0), (2, .i a2), (4, .fn (.func 25) [] []), (14, .i s36.1), (15, .i s36.2)]) (fun s36 => [(90009999, .hold (.hs 90009000 0) (T.getD 0 undef)), (90009000, .row 36 true 3 (List.map TRoute.pc a0))]) (.exit 4) (fun b37 => [(0, .hs 90009000 0), (2, .i a2), (14, .i b37)]) (fun b37 => [(90009999, .hold (.hs 90009000 0) (T.getD 0 undef)), (90009000, .row 36 true 3 (List.map TRoute.pc a0))]) rfl rfl (fun s36 x38 hr => ?_) (fun b37 hr => ?_)
   ·
    unfold slices_symMergeCmpFunc_api_Route_r4_l3 at hr
    refine rn tk 8 rfl ?_
    refine ac 85 hr rfl (fun c39 hr => ?_) (fun c39 hr => ?_)
    ·
     refine rn tk 8 rfl ?_
     refine wq (ev_i64u64 rfl ty_int ty_uint) rfl rfl rfl ?_
     refine wq (ev_ushr rfl rfl (by decide)) rfl rfl rfl ?_
     refine wq (ev_u64i64 rfl ty_uint ty_int) rfl rfl rfl ?_
     refine rn tk 4 rfl ?_
     obtain ⟨v40, h41, hr⟩ := bind_some hr
     obtain ⟨v42, h43, hr⟩ := bind_some hr
     obtain ⟨v44, h45, hr⟩ := bind_some hr
     obtain ⟨v46, h47, hr⟩ := bind_some hr
     refine dr 9 [(100, .agg [.s v46.Pattern, .s v46.Host, .i v46.Preference]), (99, .hp 90009000 (Int.toNat ((w64 ((uShr ((wu64 ((w64 (s36.1 + s36.2))))) 1))))) 0), (98, .i ((w64 ((uShr ((wu64 ((w64 (s36.1 + s36.2))))) 1))))), (97, .hs 90009000 0), (96, .agg [.s v42.Pattern, .s v42.Host, .i v42.Preference]), (95, .hp 90009000 (Int.toNat a2) 0), (94, .i a2), (93, .hs 90009000 0), (92, .fn (.func 25) [] [])] mixed (by kernel_rfl) rfl rfl (pq tk rfl (.plain rfl) (pq tk rfl (.plain rfl) (pq tk rfl (.plain rfl) (.run (.plain rfl) (opG_q (ev_hidx (F := TRoute.pc) (l := a0) (n := a2) rfl rfl rfl ty_s_api_Route ty_api_Route h41)) (.run (.plain rfl) (opG_q (ev_hloadN (F := TRoute.pc) (l := a0) (n := a2) (j := 0) rfl rfl ty_api_Route rfl h43 rfl)) (pq tk rfl (.plain rfl) (pq tk rfl (.plain rfl) (.run (.plain rfl) (opG_q (ev_hidx (F := TRoute.pc) (l := a0) (n := ((w64 ((uShr ((wu64 ((w64 (s36.1 + s36.2))))) 1))))) rfl rfl rfl ty_s_api_Route ty_api_Route h45)) (.run (.plain rfl) (opG_q (ev_hloadN (F := TRoute.pc) (l := a0) (n := ((w64 ((uShr ((wu64 ((w64 (s36.1 + s36.2))))) 1))))) (j := 0) rfl rfl ty_api_Route rfl h47 rfl)) .nil))))))))) rfl ?_
     refine il (fn := Try.f25) (args := [.agg [.s v42.Pattern, .s v42.Host, .i v42.Preference], .agg [.s v46.Pattern, .s v46.Host, .i v46.Preference]]) 400000 499999 [(0, .hs 90009000 0), (2, .i a2), (4, .fn (.func 25) [] []), (14, .i s36.1), (15, .i s36.2), (16, .i ((w64 ((uShr ((wu64 ((w64 (s36.1 + s36.2))))) 1)))))] rfl ⟨Try.func25, rfl, by kernel_rfl⟩ rfl rfl rfl fun T4 ds4 => ?_
     refine rn tk 18 rfl ?_
     refine ie tk [.i ((w64 (v42.Preference - v46.Preference)))] [(0, .hs 90009000 0), (2, .i a2), (4, .fn (.func 25) [] []), (14, .i s36.1), (15, .i s36.2), (16, .i ((w64 ((uShr ((wu64 ((w64 (s36.1 + s36.2))))) 1)))))] [(3, .cells [.s v46.Pattern, .s v46.Host, .i v46.Preference]), (2, .cells [.s v42.Pattern, .s v42.Host, .i v42.Preference]), (90009999, .hold (.hs 90009000 0) (T.getD 0 undef)), (90009000, .row 36 true 3 (List.map TRoute.pc a0))] (.inr rfl) rfl rfl rfl rfl (hO ?_)
     refine rn tk 4 rfl ?_
     refine ac 103 hr rfl (fun c48 hr => ?_) (fun c48 hr => ?_)
     ·
      refine rn tk 6 rfl ?_
      cases hr
      exact atc rfl rfl
     ·
      refine rn tk 5 rfl ?_
      cases hr
      exact atc rfl rfl
    ·
     refine rn tk 2 rfl ?_
     cases hr
     exact ato rfl rfl rfl rfl
   ·
    refine rn tk 10 rfl ?_
    refine al1 hr (fun s49 => [(0, .hs 90009000 0), (14, .i b37), (17, .i s49.1)]) (fun s49 => [(90009999, .hold (.hs 90009000 0) (T.getD 0 undef)), (90009000, .row 36 true 3 (List.map TRoute.pc s49.2))]) (.exit 6) (fun b50 => []) (fun b50 => [(90009999, .hold (.hs 90009000 0) (T.getD 0 undef)), (90009000, .row 36 true 3 (List.map TRoute.pc b50))]) rfl rfl (fun s49 x51 hr => ?_) (fun b50 hr => ?_)
    ·
     unfold slices_symMergeCmpFunc_api_Route_r4_l4 at hr
     refine rn tk 8 rfl ?_
     refine ac 110 hr rfl (fun c52 hr => ?_) (fun c52 hr => ?_)
     ·
      refine rn tk 4 rfl ?_
      obtain ⟨v53, h54, hr⟩ := bind_some hr
      obtain ⟨v55, h56, hr⟩ := bind_some hr
      obtain ⟨v57, h58, hr⟩ := bind_some hr
      obtain ⟨v59, h60, hr⟩ := bind_some hr
      obtain ⟨v61, h62, hr⟩ := bind_some hr
      obtain ⟨v63, h64, hr⟩ := bind_some hr
      obtain ⟨v65, h66, hr⟩ := bind_some hr
      obtain ⟨v67, h68, hr⟩ := bind_some hr
      refine mz [some (.hs 90009000 0), some (.i s49.1), some (.hs 90009000 0), some (.i s49.1), some (.i ((w64 (s49.1 - 1)))), some (.hs 90009000 0), some (.i s49.1), some (.i ((w64 (s49.1 - 1)))), some (.hp 90009000 (Int.toNat ((w64 (s49.1 - 1)))) 0), some (.agg [.s v55.Pattern, .s v55.Host, .i v55.Preference]), some (.hs 90009000 0), some (.i s49.1), some (.hp 90009000 (Int.toNat s49.1) 0), some (.agg [.s v59.Pattern, .s v59.Host, .i v59.Preference]), some (.hp 90009000 (Int.toNat s49.1) 0), none, some (.hp 90009000 (Int.toNat ((w64 (s49.1 - 1)))) 0), none] (fun f s => [((bt 18 0), f, s), ((bt 18 32768), f, (Sto.upd s 90009000 (.row 36 true 3 (List.map TRoute.pc ((List.set s49.2 (Int.toNat s49.1) v55)))))), ((bt 18 163840), f, (Sto.upd (Sto.upd s 90009000 (.row 36 true 3 (List.map TRoute.pc ((List.set s49.2 (Int.toNat s49.1) v55))))) 90009000 (.row 36 true 3 (List.map TRoute.pc ((List.set ((List.set s49.2 (Int.toNat s49.1) v55)) (Int.toNat ((w64 (s49.1 - 1)))) v59))))))]) mixed (by kernel_rfl) (.cons (mn tk [8, 9, 12, 13, 14, 15] (by kernel_rfl) (.cons (.pure rfl rfl (opG_q (ev_hidx (F := TRoute.pc) (l := s49.2) (n := ((w64 (s49.1 - 1)))) rfl rfl rfl ty_s_api_Route ty_api_Route h54))) (.cons (.pure rfl rfl (opG_q (ev_hloadN (F := TRoute.pc) (l := s49.2) (n := ((w64 (s49.1 - 1)))) (j := 0) rfl rfl ty_api_Route rfl h56 rfl))) (.cons (.pure rfl rfl (opG_q (ev_hidx (F := TRoute.pc) (l := s49.2) (n := s49.1) rfl rfl rfl ty_s_api_Route ty_api_Route h58))) (.cons (.pure rfl rfl (opG_q (ev_hloadN (F := TRoute.pc) (l := s49.2) (n := s49.1) (j := 0) rfl rfl ty_api_Route rfl h60 rfl))) (.cons (.pure rfl rfl (opG_q (ev_hidx (F := TRoute.pc) (l := s49.2) (n := s49.1) rfl rfl rfl ty_s_api_Route ty_api_Route h62))) (.cons (mst 1 rfl (hv_hstore (F := TRoute.pc) (l := s49.2) (n := s49.1) (j := 0) (v := v63) (v' := v55) (pcs := [pS v55.Pattern, pS v55.Host, pI v55.Preference]) rfl rfl rfl ty_api_Route rfl h64 rfl rfl) (by kernel_rfl)) .nil))))))) (.cons (mn tk [16, 17] (by kernel_rfl) (.cons (.pure rfl rfl (opG_q (ev_hidx (F := TRoute.pc) (l := ((List.set s49.2 (Int.toNat s49.1) v55))) (n := ((w64 (s49.1 - 1)))) rfl rfl rfl ty_s_api_Route ty_api_Route h66))) (.cons (mst 2 rfl (hv_hstore (F := TRoute.pc) (l := ((List.set s49.2 (Int.toNat s49.1) v55))) (n := ((w64 (s49.1 - 1)))) (j := 0) (v := v67) (v' := v59) (pcs := [pS v59.Pattern, pS v59.Host, pI v59.Preference]) rfl rfl rfl ty_api_Route rfl h68 rfl rfl) (by kernel_rfl)) .nil))) (.cons (mf tk [] [(0, .hs 90009000 0), (14, .i b37), (17, .i s49.1)] (by kernel_rfl) .nil (fc rfl (fc rfl (fc rfl fn))) (hA ?_)) .nil)))
      refine rn tk 7 rfl ?_
      cases hr
      exact atc rfl rfl
     ·
      refine rn tk 2 rfl ?_
      cases hr
      exact ato rfl rfl rfl rfl
    ·
     refine rn tk 4 rfl ?_
     cases hr
     exact krS tk (.inr rfl) rfl rfl (stoLe_cons rfl (stoLe_cons rfl stoLe_nil))
  ·
   refine rn tk 7 rfl ?_
   refine wq (ev_i64u64 rfl ty_int ty_uint) rfl rfl rfl ?_
   refine wq (ev_ushr rfl rfl (by decide)) rfl rfl rfl ?_
   refine wq (ev_u64i64 rfl ty_uint ty_int) rfl rfl rfl ?_
   refine rn tk 17 rfl ?_
   refine jb hr (fun j69 => [(0, .hs 90009000 0), (1, .i a1), (2, .i a2), (3, .i a3), (4, .fn (.func 25) [] []), (18, .i j69.1), (19, .i j69.2.1), (20, .i j69.2.2.1), (21, .i j69.2.2.2)]) (fun j69 => [(90009999, .hold (.hs 90009000 0) (T.getD 0 undef)), (90009000, .row 36 true 3 (List.map TRoute.pc a0))]) (fun j69 hr => ?_) (fun j69 hr => ?_)
   ·
    refine rn tk 7 rfl ?_
    refine ac 140 hr rfl (fun c70 hr => ?_) (fun c70 hr => ?_)
    ·
     refine rn tk 12 rfl ?_
     cases hr
     exact jn _ rfl rfl rfl
    ·
     refine rn tk 10 rfl ?_
     cases hr
     exact jn _ rfl rfl rfl
   ·
    refine rn tk 9 rfl ?_
    refine al1 hr (fun s71 => [(0, .hs 90009000 0), (1, .i a1), (2, .i a2), (3, .i a3), (4, .fn (.func 25) [] []), (18, .i j69.1), (19, .i j69.2.1), (20, .i s71.1), (21, .i s71.2), (22, .i ((w64 (j69.2.1 - 1))))]) (fun s71 => [(90009999, .hold (.hs 90009000 0) (T.getD 0 undef)), (90009000, .row 36 true 3 (List.map TRoute.pc a0))]) (.exit 8) (fun b72 => [(0, .hs 90009000 0), (1, .i a1), (2, .i a2), (3, .i a3), (4, .fn (.func 25) [] []), (18, .i j69.1), (19, .i j69.2.1), (20, .i b72)]) (fun b72 => [(90009999, .hold (.hs 90009000 0) (T.getD 0 undef)), (90009000, .row 36 true 3 (List.map TRoute.pc a0))]) rfl rfl (fun s71 x73 hr => ?_) (fun b72 hr => ?_)
    ·
     unfold slices_symMergeCmpFunc_api_Route_r4_l5 at hr
     refine rn tk 8 rfl ?_
     refine ac 151 hr rfl (fun c74 hr => ?_) (fun c74 hr => ?_)
     ·
      refine rn tk 8 rfl ?_
      refine wq (ev_i64u64 rfl ty_int ty_uint) rfl rfl rfl ?_
      refine wq (ev_ushr rfl rfl (by decide)) rfl rfl rfl ?_
      refine wq (ev_u64i64 rfl ty_uint ty_int) rfl rfl rfl ?_
      refine rn tk 4 rfl ?_
      obtain ⟨v75, h76, hr⟩ := bind_some hr
      obtain ⟨v77, h78, hr⟩ := bind_some hr
      obtain ⟨v79, h80, hr⟩ := bind_some hr
      obtain ⟨v81, h82, hr⟩ := bind_some hr
      refine dr 11 [(168, .agg [.s v81.Pattern, .s v81.Host, .i v81.Preference]), (167, .hp 90009000 (Int.toNat ((w64 ((uShr ((wu64 ((w64 (s71.1 + s71.2))))) 1))))) 0), (166, .i ((w64 ((uShr ((wu64 ((w64 (s71.1 + s71.2))))) 1))))), (165, .hs 90009000 0), (164, .agg [.s v77.Pattern, .s v77.Host, .i v77.Preference]), (163, .hp 90009000 (Int.toNat ((w64 ((w64 (j69.2.1 - 1)) - (w64 ((uShr ((wu64 ((w64 (s71.1 + s71.2))))) 1))))))) 0), (162, .i ((w64 ((w64 (j69.2.1 - 1)) - (w64 ((uShr ((wu64 ((w64 (s71.1 + s71.2))))) 1))))))), (161, .i ((w64 ((uShr ((wu64 ((w64 (s71.1 + s71.2))))) 1))))), (160, .i ((w64 (j69.2.1 - 1)))), (159, .hs 90009000 0), (158, .fn (.func 25) [] [])] mixed (by kernel_rfl) rfl rfl (pq tk rfl (.plain rfl) (pq tk rfl (.plain rfl) (pq tk rfl (.plain rfl) (pq tk rfl (.plain rfl) (pq tk rfl (.plain rfl) (.run (.plain rfl) (opG_q (ev_hidx (F := TRoute.pc) (l := a0) (n := ((w64 ((w64 (j69.2.1 - 1)) - (w64 ((uShr ((wu64 ((w64 (s71.1 + s71.2))))) 1))))))) rfl rfl rfl ty_s_api_Route ty_api_Route h76)) (.run (.plain rfl) (opG_q (ev_hloadN (F := TRoute.pc) (l := a0) (n := ((w64 ((w64 (j69.2.1 - 1)) - (w64 ((uShr ((wu64 ((w64 (s71.1 + s71.2))))) 1))))))) (j := 0) rfl rfl ty_api_Route rfl h78 rfl)) (pq tk rfl (.plain rfl) (pq tk rfl (.plain rfl) (.run (.plain rfl) (opG_q (ev_hidx (F := TRoute.pc) (l := a0) (n := ((w64 ((uShr ((wu64 ((w64 (s71.1 + s71.2))))) 1))))) rfl rfl rfl ty_s_api_Route ty_api_Route h80)) (.run (.plain rfl) (opG_q (ev_hloadN (F := TRoute.pc) (l := a0) (n := ((w64 ((uShr ((wu64 ((w64 (s71.1 + s71.2))))) 1))))) (j := 0) rfl rfl ty_api_Route rfl h82 rfl)) .nil))))))))))) rfl ?_
      refine il (fn := Try.f25) (args := [.agg [.s v77.Pattern, .s v77.Host, .i v77.Preference], .agg [.s v81.Pattern, .s v81.Host, .i v81.Preference]]) 600000 699999 [(0, .hs 90009000 0), (1, .i a1), (2, .i a2), (3, .i a3), (4, .fn (.func 25) [] []), (18, .i j69.1), (19, .i j69.2.1), (20, .i s71.1), (21, .i s71.2), (22, .i ((w64 (j69.2.1 - 1)))), (23, .i ((w64 ((uShr ((wu64 ((w64 (s71.1 + s71.2))))) 1)))))] rfl ⟨Try.func25, rfl, by kernel_rfl⟩ rfl rfl rfl fun T6 ds6 => ?_
      refine rn tk 18 rfl ?_
      refine ie tk [.i ((w64 (v77.Preference - v81.Preference)))] [(0, .hs 90009000 0), (1, .i a1), (2, .i a2), (3, .i a3), (4, .fn (.func 25) [] []), (18, .i j69.1), (19, .i j69.2.1), (20, .i s71.1), (21, .i s71.2), (22, .i ((w64 (j69.2.1 - 1)))), (23, .i ((w64 ((uShr ((wu64 ((w64 (s71.1 + s71.2))))) 1)))))] [(3, .cells [.s v81.Pattern, .s v81.Host, .i v81.Preference]), (2, .cells [.s v77.Pattern, .s v77.Host, .i v77.Preference]), (90009999, .hold (.hs 90009000 0) (T.getD 0 undef)), (90009000, .row 36 true 3 (List.map TRoute.pc a0))] (.inr rfl) rfl rfl rfl rfl (hO ?_)
      refine rn tk 4 rfl ?_
      refine ac 171 hr rfl (fun c83 hr => ?_) (fun c83 hr => ?_)
      ·
       refine rn tk 6 rfl ?_
       cases hr
       exact atc rfl rfl
      ·
       refine rn tk 5 rfl ?_
       cases hr
       exact atc rfl rfl
     ·
      refine rn tk 2 rfl ?_
      cases hr
      exact ato rfl rfl rfl rfl
    ·
     refine rn tk 10 rfl ?_
     refine jb hr (fun j84 => [(0, .hs 90009000 0), (1, .i a1), (3, .i a3), (4, .fn (.func 25) [] []), (18, .i j69.1), (20, .i b72), (24, .i j84.1)]) (fun j84 => [(90009000, .row 36 true 3 (List.map TRoute.pc j84.2)), (90009999, .hold (.hs 90009000 0) (T.getD 0 undef))]) (fun j84 hr => ?_) (fun j84 hr => ?_)
     ·
      refine jb hr (fun j85 => [(0, .hs 90009000 0), (1, .i a1), (2, .i a2), (3, .i a3), (4, .fn (.func 25) [] []), (18, .i j69.1), (20, .i b72), (24, .i j85.1), (185, .bo j85.2)]) (fun j85 => [(90009999, .hold (.hs 90009000 0) (T.getD 0 undef)), (90009000, .row 36 true 3 (List.map TRoute.pc a0))]) (fun j85 hr => ?_) (fun j85 hr => ?_)
      ·
       refine rn tk 5 rfl ?_
       refine bs 181 hr rfl (fun c86 hr => ?_) (fun c86 hr => ?_)
       ·
        refine rn tk 5 rfl ?_
        cases hr
        exact jn _ rfl rfl rfl
       ·
        refine rn tk 5 rfl ?_
        cases hr
        exact jn _ rfl rfl rfl
      ·
       refine ac 185 hr rfl (fun c87 hr => ?_) (fun c87 hr => ?_)
       ·
        refine rn tk 6 rfl ?_
        obtain ⟨v88, h89, hr⟩ := bind_some hr
        refine wo (opTo_callS (k := 191) (slices_rotateCmpFunc_api_Route_run a0 b72 a2 j85.1 v88 h89) rfl rfl (stoLe_cons rfl stoLe_nil)) rfl ?_
        refine rn tk 1 rfl ?_
        cases hr
        exact jn _ rfl rfl rfl
       ·
        refine rn tk 1 rfl ?_
        cases hr
        exact jn _ rfl rfl rfl
     ·
      refine jb hr (fun j90 => [(0, .hs 90009000 0), (3, .i a3), (4, .fn (.func 25) [] []), (18, .i j69.1), (24, .i j84.1)]) (fun j90 => [(90009000, .row 36 true 3 (List.map TRoute.pc j90)), (90009999, .hold (.hs 90009000 0) (T.getD 0 undef))]) (fun j90 hr => ?_) (fun j90 hr => ?_)
      ·
       refine jb hr (fun j91 => [(0, .hs 90009000 0), (1, .i a1), (3, .i a3), (4, .fn (.func 25) [] []), (18, .i j69.1), (20, .i b72), (24, .i j84.1), (199, .bo j91)]) (fun j91 => [(90009000, .row 36 true 3 (List.map TRoute.pc j84.2)), (90009999, .hold (.hs 90009000 0) (T.getD 0 undef))]) (fun j91 hr => ?_) (fun j91 hr => ?_)
       ·
        refine rn tk 5 rfl ?_
        refine bs 195 hr rfl (fun c92 hr => ?_) (fun c92 hr => ?_)
        ·
         refine rn tk 5 rfl ?_
         cases hr
         exact jn _ rfl rfl rfl
        ·
         refine rn tk 5 rfl ?_
         cases hr
         exact jn _ rfl rfl rfl
       ·
        refine ac 199 hr rfl (fun c93 hr => ?_) (fun c93 hr => ?_)
        ·
         refine rn tk 6 rfl ?_
         obtain ⟨v94, h95, hr⟩ := bind_some hr
         refine wo (opTo_callS (k := 205) (slices_symMergeCmpFunc_api_Route_r3_run j84.2 a1 b72 j69.1 v94 h95) rfl rfl (stoLe_cons rfl stoLe_nil)) rfl ?_
         refine rn tk 1 rfl ?_
         cases hr
         exact jn _ rfl rfl rfl
        ·
         refine rn tk 1 rfl ?_
         cases hr
         exact jn _ rfl rfl rfl
      ·
       refine jb hr (fun j96 => [(0, .hs 90009000 0), (3, .i a3), (4, .fn (.func 25) [] []), (18, .i j69.1), (24, .i j84.1), (213, .bo j96)]) (fun j96 => [(90009000, .row 36 true 3 (List.map TRoute.pc j90)), (90009999, .hold (.hs 90009000 0) (T.getD 0 undef))]) (fun j96 hr => ?_) (fun j96 hr => ?_)
       ·
        refine rn tk 5 rfl ?_
        refine bs 209 hr rfl (fun c97 hr => ?_) (fun c97 hr => ?_)
        ·
         refine rn tk 5 rfl ?_
         cases hr
         exact jn _ rfl rfl rfl
        ·
         refine rn tk 5 rfl ?_
         cases hr
         exact jn _ rfl rfl rfl
       ·
        refine ac 213 hr rfl (fun c98 hr => ?_) (fun c98 hr => ?_)
        ·
         refine rn tk 6 rfl ?_
         obtain ⟨v99, h100, hr⟩ := bind_some hr
         refine wo (opTo_callS (k := 219) (slices_symMergeCmpFunc_api_Route_r3_run j90 j69.1 j84.1 a3 v99 h100) rfl rfl (stoLe_cons rfl stoLe_nil)) rfl ?_
         refine rn tk 1 rfl ?_
         cases hr
         exact krS tk (.inl rfl) rfl rfl (stoLe_cons rfl (stoLe_cons rfl stoLe_nil))
        ·
         refine rn tk 1 rfl ?_
         cases hr
         exact krS tk (.inl rfl) rfl rfl (stoLe_cons rfl (stoLe_cons rfl stoLe_nil))
theorem slices_symMergeCmpFunc_api_Route_run (a0 : List TRoute) (a1 : Int) (a2 : Int) (a3 : Int) (r : List TRoute) (hr : slices_symMergeCmpFunc_api_Route a0 a1 a2 a3 = some r) : RunS Try.prog 43 [.hs 90009000 0, .i a1, .i a2, .i a3, .fn (.func 25) [] []] [(90009000, .row 36 true 3 (List.map TRoute.pc a0))] (.tup []) [(90009000, .row 36 true 3 (List.map TRoute.pc r))] 90009000 [] := by
 unfold slices_symMergeCmpFunc_api_Route at hr
 obtain ⟨hne, hr⟩ := rowne hr
 refine rfW (fn := Try.f43) (H := 90009999) ⟨Try.func43, rfl, by kernel_rfl⟩ rfl (fun _ => rfl) rfl rfl rfl (hne _) rfl rfl rfl rfl rfl fun g0 hg S sg T => ?_
 refine rn tk 9 rfl ?_
 refine ac 28 hr rfl (fun c1 hr => ?_) (fun c1 hr => ?_)
 ·
  refine rn tk 14 rfl ?_
  refine al1 hr (fun s2 => [(0, .hs 90009000 0), (1, .i a1), (4, .fn (.func 25) [] []), (10, .i s2.1), (11, .i s2.2)]) (fun s2 => [(90009999, .hold (.hs 90009000 0) (T.getD 0 undef)), (90009000, .row 36 true 3 (List.map TRoute.pc a0))]) (.exit 0) (fun b3 => [(0, .hs 90009000 0), (1, .i a1), (10, .i b3)]) (fun b3 => [(90009999, .hold (.hs 90009000 0) (T.getD 0 undef)), (90009000, .row 36 true 3 (List.map TRoute.pc a0))]) rfl rfl (fun s2 x4 hr => ?_) (fun b3 hr => ?_)
  ·
   unfold slices_symMergeCmpFunc_api_Route_l1 at hr
   refine rn tk 8 rfl ?_
   refine ac 33 hr rfl (fun c5 hr => ?_) (fun c5 hr => ?_)
   ·
    refine rn tk 8 rfl ?_
    refine wq (ev_i64u64 rfl ty_int ty_uint) rfl rfl rfl ?_
    refine wq (ev_ushr rfl rfl (by decide)) rfl rfl rfl ?_
    refine wq (ev_u64i64 rfl ty_uint ty_int) rfl rfl rfl ?_
    refine rn tk 4 rfl ?_
    obtain ⟨v6, h7, hr⟩ := bind_some hr
    obtain ⟨v8, h9, hr⟩ := bind_some hr
    obtain ⟨v10, h11, hr⟩ := bind_some hr
    obtain ⟨v12, h13, hr⟩ := bind_some hr
    refine dr 9 [(48, .agg [.s v12.Pattern, .s v12.Host, .i v12.Preference]), (47, .hp 90009000 (Int.toNat a1) 0), (46, .i a1), (45, .hs 90009000 0), (44, .agg [.s v8.Pattern, .s v8.Host, .i v8.Preference]), (43, .hp 90009000 (Int.toNat ((w64 ((uShr ((wu64 ((w64 (s2.1 + s2.2))))) 1))))) 0), (42, .i ((w64 ((uShr ((wu64 ((w64 (s2.1 + s2.2))))) 1))))), (41, .hs 90009000 0), (40, .fn (.func 25) [] [])] mixed (by kernel_rfl) rfl rfl (pq tk rfl (.plain rfl) (pq tk rfl (.plain rfl) (pq tk rfl (.plain rfl) (.run (.plain rfl) (opG_q (ev_hidx (F := TRoute.pc) (l := a0) (n := ((w64 ((uShr ((wu64 ((w64 (s2.1 + s2.2))))) 1))))) rfl rfl rfl ty_s_api_Route ty_api_Route h7)) (.run (.plain rfl) (opG_q (ev_hloadN (F := TRoute.pc) (l := a0) (n := ((w64 ((uShr ((wu64 ((w64 (s2.1 + s2.2))))) 1))))) (j := 0) rfl rfl ty_api_Route rfl h9 rfl)) (pq tk rfl (.plain rfl) (pq tk rfl (.plain rfl) (.run (.plain rfl) (opG_q (ev_hidx (F := TRoute.pc) (l := a0) (n := a1) rfl rfl rfl ty_s_api_Route ty_api_Route h11)) (.run (.plain rfl) (opG_q (ev_hloadN (F := TRoute.pc) (l := a0) (n := a1) (j := 0) rfl rfl ty_api_Route rfl h13 rfl)) .nil))))))))) rfl ?_
    refine il (fn := Try.f25) (args := [.agg [.s v8.Pattern, .s v8.Host, .i v8.Preference], .agg [.s v12.Pattern, .s v12.Host, .i v12.Preference]]) 200000 299999 [(0, .hs 90009000 0), (1, .i a1), (4, .fn (.func 25) [] []), (10, .i s2.1), (11, .i s2.2), (12, .i ((w64 ((uShr ((wu64 ((w64 (s2.1 + s2.2))))) 1)))))] rfl ⟨Try.func25, rfl, by kernel_rfl⟩ rfl rfl rfl fun T2 ds2 => ?_
    refine rn tk 18 rfl ?_
    refine ie tk [.i ((w64 (v8.Preference - v12.Preference)))] [(0, .hs 90009000 0), (1, .i a1), (4, .fn (.func 25) [] []), (10, .i s2.1), (11, .i s2.2), (12, .i ((w64 ((uShr ((wu64 ((w64 (s2.1 + s2.2))))) 1)))))] [(3, .cells [.s v12.Pattern, .s v12.Host, .i v12.Preference]), (2, .cells [.s v8.Pattern, .s v8.Host, .i v8.Preference]), (90009999, .hold (.hs 90009000 0) (T.getD 0 undef)), (90009000, .row 36 true 3 (List.map TRoute.pc a0))] (.inr rfl) rfl rfl rfl rfl (hO ?_)
    refine rn tk 3 rfl ?_
    refine ac 50 hr rfl (fun c14 hr => ?_) (fun c14 hr => ?_)
    ·
     refine rn tk 6 rfl ?_
     cases hr
     exact atc rfl rfl
    ·
     refine rn tk 5 rfl ?_
     cases hr
     exact atc rfl rfl
   ·
    refine rn tk 2 rfl ?_
    cases hr
    exact ato rfl rfl rfl rfl
  ·
   refine rn tk 10 rfl ?_
   refine al1 hr (fun s15 => [(0, .hs 90009000 0), (10, .i b3), (13, .i s15.1)]) (fun s15 => [(90009999, .hold (.hs 90009000 0) (T.getD 0 undef)), (90009000, .row 36 true 3 (List.map TRoute.pc s15.2))]) (.exit 2) (fun b16 => []) (fun b16 => [(90009999, .hold (.hs 90009000 0) (T.getD 0 undef)), (90009000, .row 36 true 3 (List.map TRoute.pc b16))]) rfl rfl (fun s15 x17 hr => ?_) (fun b16 hr => ?_)
   ·
    unfold slices_symMergeCmpFunc_api_Route_l2 at hr
    refine rn tk 9 rfl ?_
    refine ac 58 hr rfl (fun c18 hr => ?_) (fun c18 hr => ?_)
    ·
     refine rn tk 4 rfl ?_
     obtain ⟨v19, h20, hr⟩ := bind_some hr
     obtain ⟨v21, h22, hr⟩ := bind_some hr
     obtain ⟨v23, h24, hr⟩ := bind_some hr
     obtain ⟨v25, h26, hr⟩ := bind_some hr
     obtain ⟨v27, h28, hr⟩ := bind_some hr
     obtain ⟨v29, h30, hr⟩ := bind_some hr
     obtain ⟨v31, h32, hr⟩ := bind_some hr
     obtain ⟨v33, h34, hr⟩ := bind_some hr
     refine mz [some (.hs 90009000 0), some (.i s15.1), some (.hs 90009000 0), some (.i s15.1), some (.i ((w64 (s15.1 + 1)))), some (.hs 90009000 0), some (.i s15.1), some (.i ((w64 (s15.1 + 1)))), some (.hp 90009000 (Int.toNat ((w64 (s15.1 + 1)))) 0), some (.agg [.s v21.Pattern, .s v21.Host, .i v21.Preference]), some (.hs 90009000 0), some (.i s15.1), some (.hp 90009000 (Int.toNat s15.1) 0), some (.agg [.s v25.Pattern, .s v25.Host, .i v25.Preference]), some (.hp 90009000 (Int.toNat s15.1) 0), none, some (.hp 90009000 (Int.toNat ((w64 (s15.1 + 1)))) 0), none] (fun f s => [((bt 18 0), f, s), ((bt 18 32768), f, (Sto.upd s 90009000 (.row 36 true 3 (List.map TRoute.pc ((List.set s15.2 (Int.toNat s15.1) v21)))))), ((bt 18 163840), f, (Sto.upd (Sto.upd s 90009000 (.row 36 true 3 (List.map TRoute.pc ((List.set s15.2 (Int.toNat s15.1) v21))))) 90009000 (.row 36 true 3 (List.map TRoute.pc ((List.set ((List.set s15.2 (Int.toNat s15.1) v21)) (Int.toNat ((w64 (s15.1 + 1)))) v25))))))]) mixed (by kernel_rfl) (.cons (mn tk [8, 9, 12, 13, 14, 15] (by kernel_rfl) (.cons (.pure rfl rfl (opG_q (ev_hidx (F := TRoute.pc) (l := s15.2) (n := ((w64 (s15.1 + 1)))) rfl rfl rfl ty_s_api_Route ty_api_Route h20))) (.cons (.pure rfl rfl (opG_q (ev_hloadN (F := TRoute.pc) (l := s15.2) (n := ((w64 (s15.1 + 1)))) (j := 0) rfl rfl ty_api_Route rfl h22 rfl))) (.cons (.pure rfl rfl (opG_q (ev_hidx (F := TRoute.pc) (l := s15.2) (n := s15.1) rfl rfl rfl ty_s_api_Route ty_api_Route h24))) (.cons (.pure rfl rfl (opG_q (ev_hloadN (F := TRoute.pc) (l := s15.2) (n := s15.1) (j := 0) rfl rfl ty_api_Route rfl h26 rfl))) (.cons (.pure rfl rfl (opG_q (ev_hidx (F := TRoute.pc) (l := s15.2) (n := s15.1) rfl rfl rfl ty_s_api_Route ty_api_Route h28))) (.cons (mst 1 rfl (hv_hstore (F := TRoute.pc) (l := s15.2) (n := s15.1) (j := 0) (v := v29) (v' := v21) (pcs := [pS v21.Pattern, pS v21.Host, pI v21.Preference]) rfl rfl rfl ty_api_Route rfl h30 rfl rfl) (by kernel_rfl)) .nil))))))) (.cons (mn tk [16, 17] (by kernel_rfl) (.cons (.pure rfl rfl (opG_q (ev_hidx (F := TRoute.pc) (l := ((List.set s15.2 (Int.toNat s15.1) v21))) (n := ((w64 (s15.1 + 1)))) rfl rfl rfl ty_s_api_Route ty_api_Route h32))) (.cons (mst 2 rfl (hv_hstore (F := TRoute.pc) (l := ((List.set s15.2 (Int.toNat s15.1) v21))) (n := ((w64 (s15.1 + 1)))) (j := 0) (v := v33) (v' := v25) (pcs := [pS v25.Pattern, pS v25.Host, pI v25.Preference]) rfl rfl rfl ty_api_Route rfl h34 rfl rfl) (by kernel_rfl)) .nil))) (.cons (mf tk [] [(0, .hs 90009000 0), (10, .i b3), (13, .i s15.1)] (by kernel_rfl) .nil (fc rfl (fc rfl (fc rfl fn))) (hA ?_)) .nil)))
     refine rn tk 7 rfl ?_
     cases hr
     exact atc rfl rfl
    ·
     refine rn tk 2 rfl ?_
     cases hr
     exact ato rfl rfl rfl rfl
   ·
    refine rn tk 4 rfl ?_
    cases hr
    exact krS tk (.inr rfl) rfl rfl (stoLe_cons rfl (stoLe_cons rfl stoLe_nil))
 ·
  refine rn tk 11 rfl ?_
  refine ac 80 hr rfl (fun c35 hr => ?_) (fun c35 hr => ?_)
  ·
   refine rn tk 14 rfl ?_
   refine al1 hr (fun s36 => [(0, .hs 90009000 0), (2, .i a2), (4, .fn (.func 25) [] []), (14, .i s36.1), (15, .i s36.2)]) (fun s36 => [(90009999, .hold (.hs 90009000 0) (T.getD 0 undef)), (90009000, .row 36 true 3 (List.map TRoute.pc a0))]) (.exit 4) (fun b37 => [(0, .hs 90009000 0), (2, .i a2), (14, .i b37)]) (fun b37 => [(90009999, .hold (.hs 90009000 0) (T.getD 0 undef)), (90009000, .row 36 true 3 (List.map TRoute.pc a0))]) rfl rfl (fun s36 x38 hr => ?_) (fun b37 hr => ?_)
   ·
    unfold slices_symMergeCmpFunc_api_Route_l3 at hr
    refine rn tk 8 rfl ?_
    refine ac 85 hr rfl (fun c39 hr => ?_) (fun c39 hr => ?_)
    ·
     refine rn tk 8 rfl ?_
     refine wq (ev_i64u64 rfl ty_int ty_uint) rfl rfl rfl ?_
     refine wq (ev_ushr rfl rfl (by decide)) rfl rfl rfl ?_
     refine wq (ev_u64i64 rfl ty_uint ty_int) rfl rfl rfl ?_
     refine rn tk 4 rfl ?_
     obtain ⟨v40, h41, hr⟩ := bind_some hr
     obtain ⟨v42, h43, hr⟩ := bind_some hr
     obtain ⟨v44, h45, hr⟩ := bind_some hr
     obtain ⟨v46, h47, hr⟩ := bind_some hr
     refine dr 9 [(100, .agg [.s v46.Pattern, .s v46.Host, .i v46.Preference]), (99, .hp 90009000 (Int.toNat ((w64 ((uShr ((wu64 ((w64 (s36.1 + s36.2))))) 1))))) 0), (98, .i ((w64 ((uShr ((wu64 ((w64 (s36.1 + s36.2))))) 1))))), (97, .hs 90009000 0), (96, .agg [.s v42.Pattern, .s v42.Host, .i v42.Preference]), (95, .hp 90009000 (Int.toNat a2) 0), (94, .i a2), (93, .hs 90009000 0), (92, .fn (.func 25) [] [])] mixed (by kernel_rfl) rfl rfl (pq tk rfl (.plain rfl) (pq tk rfl (.plain rfl) (pq tk rfl (.plain rfl) (.run (.plain rfl) (opG_q (ev_hidx (F := TRoute.pc) (l := a0) (n := a2) rfl rfl rfl ty_s_api_Route ty_api_Route h41)) (.run (.plain rfl) (opG_q (ev_hloadN (F := TRoute.pc) (l := a0) (n := a2) (j := 0) rfl rfl ty_api_Route rfl h43 rfl)) (pq tk rfl (.plain rfl) (pq tk rfl (.plain rfl) (.run (.plain rfl) (opG_q (ev_hidx (F := TRoute.pc) (l := a0) (n := ((w64 ((uShr ((wu64 ((w64 (s36.1 + s36.2))))) 1))))) rfl rfl rfl ty_s_api_Route ty_api_Route h45)) (.run (.plain rfl) (opG_q (ev_hloadN (F := TRoute.pc) (l := a0) (n := ((w64 ((uShr ((wu64 ((w64 (s36.1 + s36.2))))) 1))))) (j := 0) rfl rfl ty_api_Route rfl h47 rfl)) .nil))))))))) rfl ?_
     refine il (fn := Try.f25) (args := [.agg [.s v42.Pattern, .s v42.Host, .i v42.Preference], .agg [.s v46.Pattern, .s v46.Host, .i v46.Preference]]) 400000 499999 [(0, .hs 90009000 0), (2, .i a2), (4, .fn (.func 25) [] []), (14, .i s36.1), (15, .i s36.2), (16, .i ((w64 ((uShr ((wu64 ((w64 (s36.1 + s36.2))))) 1)))))] rfl ⟨Try.func25, rfl, by kernel_rfl⟩ rfl rfl rfl fun T4 ds4 => ?_
     refine rn tk 18 rfl ?_
     refine ie tk [.i ((w64 (v42.Preference - v46.Preference)))] [(0, .hs 90009000 0), (2, .i a2), (4, .fn (.func 25) [] []), (14, .i s36.1), (15, .i s36.2), (16, .i ((w64 ((uShr ((wu64 ((w64 (s36.1 + s36.2))))) 1)))))] [(3, .cells [.s v46.Pattern, .s v46.Host, .i v46.Preference]), (2, .cells [.s v42.Pattern, .s v42.Host, .i v42.Preference]), (90009999, .hold (.hs 90009000 0) (T.getD 0 undef)), (90009000, .row 36 true 3 (List.map TRoute.pc a0))] (.inr rfl) rfl rfl rfl rfl (hO ?_)
     refine rn tk 4 rfl ?_
     refine ac 103 hr rfl (fun c48 hr => ?_) (fun c48 hr => ?_)
     ·
      refine rn tk 6 rfl ?_
      cases hr
      exact atc rfl rfl
     ·
      refine rn tk 5 rfl ?_
      cases hr
      exact atc rfl rfl
    ·
     refine rn tk 2 rfl ?_
     cases hr
     exact ato rfl rfl rfl rfl
   ·
    refine rn tk 10 rfl ?_
    refine al1 hr (fun s49 => [(0, .hs 90009000 0), (14, .i b37), (17, .i s49.1)]) (fun s49 => [(90009999, .hold (.hs 90009000 0) (T.getD 0 undef)), (90009000, .row 36 true 3 (List.map TRoute.pc s49.2))]) (.exit 6) (fun b50 => []) (fun b50 => [(90009999, .hold (.hs 90009000 0) (T.getD 0 undef)), (90009000, .row 36 true 3 (List.map TRoute.pc b50))]) rfl rfl (fun s49 x51 hr => ?_) (fun b50 hr => ?_)
    ·
     unfold slices_symMergeCmpFunc_api_Route_l4 at hr
     refine rn tk 8 rfl ?_
     refine ac 110 hr rfl (fun c52 hr => ?_) (fun c52 hr => ?_)
     ·
      refine rn tk 4 rfl ?_
      obtain ⟨v53, h54, hr⟩ := bind_some hr
      obtain ⟨v55, h56, hr⟩ := bind_some hr
      obtain ⟨v57, h58, hr⟩ := bind_some hr
      obtain ⟨v59, h60, hr⟩ := bind_some hr
      obtain ⟨v61, h62, hr⟩ := bind_some hr
      obtain ⟨v63, h64, hr⟩ := bind_some hr
      obtain ⟨v65, h66, hr⟩ := bind_some hr
      obtain ⟨v67, h68, hr⟩ := bind_some hr
      refine mz [some (.hs 90009000 0), some (.i s49.1), some (.hs 90009000 0), some (.i s49.1), some (.i ((w64 (s49.1 - 1)))), some (.hs 90009000 0), some (.i s49.1), some (.i ((w64 (s49.1 - 1)))), some (.hp 90009000 (Int.toNat ((w64 (s49.1 - 1)))) 0), some (.agg [.s v55.Pattern, .s v55.Host, .i v55.Preference]), some (.hs 90009000 0), some (.i s49.1), some (.hp 90009000 (Int.toNat s49.1) 0), some (.agg [.s v59.Pattern, .s v59.Host, .i v59.Preference]), some (.hp 90009000 (Int.toNat s49.1) 0), none, some (.hp 90009000 (Int.toNat ((w64 (s49.1 - 1)))) 0), none] (fun f s => [((bt 18 0), f, s), ((bt 18 32768), f, (Sto.upd s 90009000 (.row 36 true 3 (List.map TRoute.pc ((List.set s49.2 (Int.toNat s49.1) v55)))))), ((bt 18 163840), f, (Sto.upd (Sto.upd s 90009000 (.row 36 true 3 (List.map TRoute.pc ((List.set s49.2 (Int.toNat s49.1) v55))))) 90009000 (.row 36 true 3 (List.map TRoute.pc ((List.set ((List.set s49.2 (Int.toNat s49.1) v55)) (Int.toNat ((w64 (s49.1 - 1)))) v59))))))]) mixed (by kernel_rfl) (.cons (mn tk [8, 9, 12, 13, 14, 15] (by kernel_rfl) (.cons (.pure rfl rfl (opG_q (ev_hidx (F := TRoute.pc) (l := s49.2) (n := ((w64 (s49.1 - 1)))) rfl rfl rfl ty_s_api_Route ty_api_Route h54))) (.cons (.pure rfl rfl (opG_q (ev_hloadN (F := TRoute.pc) (l := s49.2) (n := ((w64 (s49.1 - 1)))) (j := 0) rfl rfl ty_api_Route rfl h56 rfl))) (.cons (.pure rfl rfl (opG_q (ev_hidx (F := TRoute.pc) (l := s49.2) (n := s49.1) rfl rfl rfl ty_s_api_Route ty_api_Route h58))) (.cons (.pure rfl rfl (opG_q (ev_hloadN (F := TRoute.pc) (l := s49.2) (n := s49.1) (j := 0) rfl rfl ty_api_Route rfl h60 rfl))) (.cons (.pure rfl rfl (opG_q (ev_hidx (F := TRoute.pc) (l := s49.2) (n := s49.1) rfl rfl rfl ty_s_api_Route ty_api_Route h62))) (.cons (mst 1 rfl (hv_hstore (F := TRoute.pc) (l := s49.2) (n := s49.1) (j := 0) (v := v63) (v' := v55) (pcs := [pS v55.Pattern, pS v55.Host, pI v55.Preference]) rfl rfl rfl ty_api_Route rfl h64 rfl rfl) (by kernel_rfl)) .nil))))))) (.cons (mn tk [16, 17] (by kernel_rfl) (.cons (.pure rfl rfl (opG_q (ev_hidx (F := TRoute.pc) (l := ((List.set s49.2 (Int.toNat s49.1) v55))) (n := ((w64 (s49.1 - 1)))) rfl rfl rfl ty_s_api_Route ty_api_Route h66))) (.cons (mst 2 rfl (hv_hstore (F := TRoute.pc) (l := ((List.set s49.2 (Int.toNat s49.1) v55))) (n := ((w64 (s49.1 - 1)))) (j := 0) (v := v67) (v' := v59) (pcs := [pS v59.Pattern, pS v59.Host, pI v59.Preference]) rfl rfl rfl ty_api_Route rfl h68 rfl rfl) (by kernel_rfl)) .nil))) (.cons (mf tk [] [(0, .hs 90009000 0), (14, .i b37), (17, .i s49.1)] (by kernel_rfl) .nil (fc rfl (fc rfl (fc rfl fn))) (hA ?_)) .nil)))
      refine rn tk 7 rfl ?_
      cases hr
      exact atc rfl rfl
     ·
      refine rn tk 2 rfl ?_
      cases hr
      exact ato rfl rfl rfl rfl
    ·
     refine rn tk 4 rfl ?_
     cases hr
     exact krS tk (.inr rfl) rfl rfl (stoLe_cons rfl (stoLe_cons rfl stoLe_nil))
  ·
   refine rn tk 7 rfl ?_
   refine wq (ev_i64u64 rfl ty_int ty_uint) rfl rfl rfl ?_
   refine wq (ev_ushr rfl rfl (by decide)) rfl rfl rfl ?_
   refine wq (ev_u64i64 rfl ty_uint ty_int) rfl rfl rfl ?_
   refine rn tk 17 rfl ?_
   refine jb hr (fun j69 => [(0, .hs 90009000 0), (1, .i a1), (2, .i a2), (3, .i a3), (4, .fn (.func 25) [] []), (18, .i j69.1), (19, .i j69.2.1), (20, .i j69.2.2.1), (21, .i j69.2.2.2)]) (fun j69 => [(90009999, .hold (.hs 90009000 0) (T.getD 0 undef)), (90009000, .row 36 true 3 (List.map TRoute.pc a0))]) (fun j69 hr => ?_) (fun j69 hr => ?_)
   ·
    refine rn tk 7 rfl ?_
    refine ac 140 hr rfl (fun c70 hr => ?_) (fun c70 hr => ?_)
    ·
     refine rn tk 12 rfl ?_
     cases hr
     exact jn _ rfl rfl rfl
    ·
     refine rn tk 10 rfl ?_
     cases hr
     exact jn _ rfl rfl rfl
   ·
    refine rn tk 9 rfl ?_
    refine al1 hr (fun s71 => [(0, .hs 90009000 0), (1, .i a1), (2, .i a2), (3, .i a3), (4, .fn (.func 25) [] []), (18, .i j69.1), (19, .i j69.2.1), (20, .i s71.1), (21, .i s71.2), (22, .i ((w64 (j69.2.1 - 1))))]) (fun s71 => [(90009999, .hold (.hs 90009000 0) (T.getD 0 undef)), (90009000, .row 36 true 3 (List.map TRoute.pc a0))]) (.exit 8) (fun b72 => [(0, .hs 90009000 0), (1, .i a1), (2, .i a2), (3, .i a3), (4, .fn (.func 25) [] []), (18, .i j69.1), (19, .i j69.2.1), (20, .i b72)]) (fun b72 => [(90009999, .hold (.hs 90009000 0) (T.getD 0 undef)), (90009000, .row 36 true 3 (List.map TRoute.pc a0))]) rfl rfl (fun s71 x73 hr => ?_) (fun b72 hr => ?_)
    ·
     unfold slices_symMergeCmpFunc_api_Route_l5 at hr
     refine rn tk 8 rfl ?_
     refine ac 151 hr rfl (fun c74 hr => ?_) (fun c74 hr => ?_)
     ·
      refine rn tk 8 rfl ?_
      refine wq (ev_i64u64 rfl ty_int ty_uint) rfl rfl rfl ?_
      refine wq (ev_ushr rfl rfl (by decide)) rfl rfl rfl ?_
      refine wq (ev_u64i64 rfl ty_uint ty_int) rfl rfl rfl ?_
      refine rn tk 4 rfl ?_
      obtain ⟨v75, h76, hr⟩ := bind_some hr
      obtain ⟨v77, h78, hr⟩ := bind_some hr
      obtain ⟨v79, h80, hr⟩ := bind_some hr
      obtain ⟨v81, h82, hr⟩ := bind_some hr
      refine dr 11 [(168, .agg [.s v81.Pattern, .s v81.Host, .i v81.Preference]), (167, .hp 90009000 (Int.toNat ((w64 ((uShr ((wu64 ((w64 (s71.1 + s71.2))))) 1))))) 0), (166, .i ((w64 ((uShr ((wu64 ((w64 (s71.1 + s71.2))))) 1))))), (165, .hs 90009000 0), (164, .agg [.s v77.Pattern, .s v77.Host, .i v77.Preference]), (163, .hp 90009000 (Int.toNat ((w64 ((w64 (j69.2.1 - 1)) - (w64 ((uShr ((wu64 ((w64 (s71.1 + s71.2))))) 1))))))) 0), (162, .i ((w64 ((w64 (j69.2.1 - 1)) - (w64 ((uShr ((wu64 ((w64 (s71.1 + s71.2))))) 1))))))), (161, .i ((w64 ((uShr ((wu64 ((w64 (s71.1 + s71.2))))) 1))))), (160, .i ((w64 (j69.2.1 - 1)))), (159, .hs 90009000 0), (158, .fn (.func 25) [] [])] mixed (by kernel_rfl) rfl rfl (pq tk rfl (.plain rfl) (pq tk rfl (.plain rfl) (pq tk rfl (.plain rfl) (pq tk rfl (.plain rfl) (pq tk rfl (.plain rfl) (.run (.plain rfl) (opG_q (ev_hidx (F := TRoute.pc) (l := a0) (n := ((w64 ((w64 (j69.2.1 - 1)) - (w64 ((uShr ((wu64 ((w64 (s71.1 + s71.2))))) 1))))))) rfl rfl rfl ty_s_api_Route ty_api_Route h76)) (.run (.plain rfl) (opG_q (ev_hloadN (F := TRoute.pc) (l := a0) (n := ((w64 ((w64 (j69.2.1 - 1)) - (w64 ((uShr ((wu64 ((w64 (s71.1 + s71.2))))) 1))))))) (j := 0) rfl rfl ty_api_Route rfl h78 rfl)) (pq tk rfl (.plain rfl) (pq tk rfl (.plain rfl) (.run (.plain rfl) (opG_q (ev_hidx (F := TRoute.pc) (l := a0) (n := ((w64 ((uShr ((wu64 ((w64 (s71.1 + s71.2))))) 1))))) rfl rfl rfl ty_s_api_Route ty_api_Route h80)) (.run (.plain rfl) (opG_q (ev_hloadN (F := TRoute.pc) (l := a0) (n := ((w64 ((uShr ((wu64 ((w64 (s71.1 + s71.2))))) 1))))) (j := 0) rfl rfl ty_api_Route rfl h82 rfl)) .nil))))))))))) rfl ?_
      refine il (fn := Try.f25) (args := [.agg [.s v77.Pattern, .s v77.Host, .i v77.Preference], .agg [.s v81.Pattern, .s v81.Host, .i v81.Preference]]) 600000 699999 [(0, .hs 90009000 0), (1, .i a1), (2, .i a2), (3, .i a3), (4, .fn (.func 25) [] []), (18, .i j69.1), (19, .i j69.2.1), (20, .i s71.1), (21, .i s71.2), (22, .i ((w64 (j69.2.1 - 1)))), (23, .i ((w64 ((uShr ((wu64 ((w64 (s71.1 + s71.2))))) 1)))))] rfl ⟨Try.func25, rfl, by kernel_rfl⟩ rfl rfl rfl fun T6 ds6 => ?_
      refine rn tk 18 rfl ?_
      refine ie tk [.i ((w64 (v77.Preference - v81.Preference)))] [(0, .hs 90009000 0), (1, .i a1), (2, .i a2), (3, .i a3), (4, .fn (.func 25) [] []), (18, .i j69.1), (19, .i j69.2.1), (20, .i s71.1), (21, .i s71.2), (22, .i ((w64 (j69.2.1 - 1)))), (23, .i ((w64 ((uShr ((wu64 ((w64 (s71.1 + s71.2))))) 1)))))] [(3, .cells [.s v81.Pattern, .s v81.Host, .i v81.Preference]), (2, .cells [.s v77.Pattern, .s v77.Host, .i v77.Preference]), (90009999, .hold (.hs 90009000 0) (T.getD 0 undef)), (90009000, .row 36 true 3 (List.map TRoute.pc a0))] (.inr rfl) rfl rfl rfl rfl (hO ?_)
      refine rn tk 4 rfl ?_
      refine ac 171 hr rfl (fun c83 hr => ?_) (fun c83 hr => ?_)
      ·
       refine rn tk 6 rfl ?_
       cases hr
       exact atc rfl rfl
      ·
       refine rn tk 5 rfl ?_
       cases hr
       exact atc rfl rfl
     ·
      refine rn tk 2 rfl ?_
      cases hr
      exact ato rfl rfl rfl rfl
    ·
     refine rn tk 10 rfl ?_
     refine jb hr (fun j84 => [(0, .hs 90009000 0), (1, .i a1), (3, .i a3), (4, .fn (.func 25) [] []), (18, .i j69.1), (20, .i b72), (24, .i j84.1)]) (fun j84 => [(90009000, .row 36 true 3 (List.map TRoute.pc j84.2)), (90009999, .hold (.hs 90009000 0) (T.getD 0 undef))]) (fun j84 hr => ?_) (fun j84 hr => ?_)
     ·
      refine jb hr (fun j85 => [(0, .hs 90009000 0), (1, .i a1), (2, .i a2), (3, .i a3), (4, .fn (.func 25) [] []), (18, .i j69.1), (20, .i b72), (24, .i j85.1), (185, .bo j85.2)]) (fun j85 => [(90009999, .hold (.hs 90009000 0) (T.getD 0 undef)), (90009000, .row 36 true 3 (List.map TRoute.pc a0))]) (fun j85 hr => ?_) (fun j85 hr => ?_)
      ·
       refine rn tk 5 rfl ?_
       refine bs 181 hr rfl (fun c86 hr => ?_) (fun c86 hr => ?_)
       ·
        refine rn tk 5 rfl ?_
        cases hr
        exact jn _ rfl rfl rfl
       ·
        refine rn tk 5 rfl ?_
        cases hr
        exact jn _ rfl rfl rfl
      ·
       refine ac 185 hr rfl (fun c87 hr => ?_) (fun c87 hr => ?_)
       ·
        refine rn tk 6 rfl ?_
        obtain ⟨v88, h89, hr⟩ := bind_some hr
        refine wo (opTo_callS (k := 191) (slices_rotateCmpFunc_api_Route_run a0 b72 a2 j85.1 v88 h89) rfl rfl (stoLe_cons rfl stoLe_nil)) rfl ?_
        refine rn tk 1 rfl ?_
        cases hr
        exact jn _ rfl rfl rfl
       ·
        refine rn tk 1 rfl ?_
        cases hr
        exact jn _ rfl rfl rfl
     ·
      refine jb hr (fun j90 => [(0, .hs 90009000 0), (3, .i a3), (4, .fn (.func 25) [] []), (18, .i j69.1), (24, .i j84.1)]) (fun j90 => [(90009000, .row 36 true 3 (List.map TRoute.pc j90)), (90009999, .hold (.hs 90009000 0) (T.getD 0 undef))]) (fun j90 hr => ?_) (fun j90 hr => ?_)
      ·
       refine jb hr (fun j91 => [(0, .hs 90009000 0), (1, .i a1), (3, .i a3), (4, .fn (.func 25) [] []), (18, .i j69.1), (20, .i b72), (24, .i j84.1), (199, .bo j91)]) (fun j91 => [(90009000, .row 36 true 3 (List.map TRoute.pc j84.2)), (90009999, .hold (.hs 90009000 0) (T.getD 0 undef))]) (fun j91 hr => ?_) (fun j91 hr => ?_)
       ·
        refine rn tk 5 rfl ?_
        refine bs 195 hr rfl (fun c92 hr => ?_) (fun c92 hr => ?_)
        ·
         refine rn tk 5 rfl ?_
         cases hr
         exact jn _ rfl rfl rfl
        ·
         refine rn tk 5 rfl ?_
         cases hr
         exact jn _ rfl rfl rfl
       ·
        refine ac 199 hr rfl (fun c93 hr => ?_) (fun c93 hr => ?_)
        ·
         refine rn tk 6 rfl ?_
         obtain ⟨v94, h95, hr⟩ := bind_some hr
         refine wo (opTo_callS (k := 205) (slices_symMergeCmpFunc_api_Route_r4_run j84.2 a1 b72 j69.1 v94 h95) rfl rfl (stoLe_cons rfl stoLe_nil)) rfl ?_
         refine rn tk 1 rfl ?_
         cases hr
         exact jn _ rfl rfl rfl
        ·
         refine rn tk 1 rfl ?_
         cases hr
         exact jn _ rfl rfl rfl
      ·
       refine jb hr (fun j96 => [(0, .hs 90009000 0), (3, .i a3), (4, .fn (.func 25) [] []), (18, .i j69.1), (24, .i j84.1), (213, .bo j96)]) (fun j96 => [(90009000, .row 36 true 3 (List.map TRoute.pc j90)), (90009999, .hold (.hs 90009000 0) (T.getD 0 undef))]) (fun j96 hr => ?_) (fun j96 hr => ?_)
       ·
        refine rn tk 5 rfl ?_
        refine bs 209 hr rfl (fun c97 hr => ?_) (fun c97 hr => ?_)
        ·
         refine rn tk 5 rfl ?_
         cases hr
         exact jn _ rfl rfl rfl
        ·
         refine rn tk 5 rfl ?_
         cases hr
         exact jn _ rfl rfl rfl
       ·
        refine ac 213 hr rfl (fun c98 hr => ?_) (fun c98 hr => ?_)
        ·
         refine rn tk 6 rfl ?_
         obtain ⟨v99, h100, hr⟩ := bind_some hr
         refine wo (opTo_callS (k := 219) (slices_symMergeCmpFunc_api_Route_r4_run j90 j69.1 j84.1 a3 v99 h100) rfl rfl (stoLe_cons rfl stoLe_nil)) rfl ?_
         refine rn tk 1 rfl ?_
         cases hr
         exact krS tk (.inl rfl) rfl rfl (stoLe_cons rfl (stoLe_cons rfl stoLe_nil))
        ·
         refine rn tk 1 rfl ?_
         cases hr
         exact krS tk (.inl rfl) rfl rfl (stoLe_cons rfl (stoLe_cons rfl stoLe_nil))
theorem slices_stableCmpFunc_api_Route_run (a0 : List TRoute) (a1 : Int) (r : List TRoute) (hr : slices_stableCmpFunc_api_Route a0 a1 = some r) : RunS Try.prog 36 [.hs 90009000 0, .i a1, .fn (.func 25) [] []] [(90009000, .row 36 true 3 (List.map TRoute.pc a0))] (.tup []) [(90009000, .row 36 true 3 (List.map TRoute.pc r))] 90009000 [] := by
 unfold slices_stableCmpFunc_api_Route at hr
 obtain ⟨hne, hr⟩ := rowne hr
 refine rfW (fn := Try.f36) (H := 90009999) ⟨Try.func36, rfl, by kernel_rfl⟩ rfl (fun _ => rfl) rfl rfl rfl (hne _) rfl rfl rfl rfl rfl fun g0 hg S sg T => ?_
 refine rn tk 14 rfl ?_
 refine al1 hr (fun s1 => [(0, .hs 90009000 0), (1, .i a1), (2, .fn (.func 25) [] []), (6, .i 20), (7, .i s1.1), (8, .i s1.2.1)]) (fun s1 => [(90009999, .hold (.hs 90009000 0) (T.getD 0 undef)), (90009000, .row 36 true 3 (List.map TRoute.pc s1.2.2))]) (.exit 0) (fun b2 => [(0, .hs 90009000 0), (1, .i a1), (2, .fn (.func 25) [] []), (6, .i 20), (7, .i b2.1)]) (fun b2 => [(90009999, .hold (.hs 90009000 0) (T.getD 0 undef)), (90009000, .row 36 true 3 (List.map TRoute.pc b2.2))]) rfl rfl (fun s1 x3 hr => ?_) (fun b2 hr => ?_)
 ·
  unfold slices_stableCmpFunc_api_Route_l1 at hr
  refine rn tk 8 rfl ?_
  refine ac 13 hr rfl (fun c4 hr => ?_) (fun c4 hr => ?_)
  ·
   refine rn tk 9 rfl ?_
   obtain ⟨v5, h6, hr⟩ := bind_some hr
   refine wo (opTo_callS (k := 18) (slices_insertionSortCmpFunc_api_Route_run s1.2.2 s1.1 s1.2.1 v5 h6) rfl rfl (stoLe_cons rfl stoLe_nil)) rfl ?_
   refine rn tk 15 rfl ?_
   cases hr
   exact atc rfl rfl
  ·
   refine rn tk 2 rfl ?_
   cases hr
   exact ato rfl rfl rfl rfl
 ·
  refine rn tk 8 rfl ?_
  obtain ⟨v7, h8, hr⟩ := bind_some hr
  refine wo (opTo_callS (k := 27) (slices_insertionSortCmpFunc_api_Route_run b2.2 b2.1 a1 v7 h8) rfl rfl (stoLe_cons rfl stoLe_nil)) rfl ?_
  refine rn tk 3 rfl ?_
  refine al1 hr (fun s9 => [(0, .hs 90009000 0), (1, .i a1), (2, .fn (.func 25) [] []), (6, .i s9.1)]) (fun s9 => [(90009000, .row 36 true 3 (List.map TRoute.pc s9.2)), (90009999, .hold (.hs 90009000 0) (T.getD 0 undef))]) (.exit 2) (fun b10 => []) (fun b10 => [(90009000, .row 36 true 3 (List.map TRoute.pc b10)), (90009999, .hold (.hs 90009000 0) (T.getD 0 undef))]) rfl rfl (fun s9 x11 hr => ?_) (fun b10 hr => ?_)
  ·
   unfold slices_stableCmpFunc_api_Route_l2 at hr
   refine rn tk 8 rfl ?_
   refine ac 30 hr rfl (fun c12 hr => ?_) (fun c12 hr => ?_)
   ·
    refine rn tk 13 rfl ?_
    refine al1 hr (fun s13 => [(0, .hs 90009000 0), (1, .i a1), (2, .fn (.func 25) [] []), (6, .i s9.1), (7, .i s13.1), (8, .i s13.2.1)]) (fun s13 => [(90009000, .row 36 true 3 (List.map TRoute.pc s13.2.2)), (90009999, .hold (.hs 90009000 0) (T.getD 0 undef))]) (.exit 4) (fun b14 => [(0, .hs 90009000 0), (1, .i a1), (2, .fn (.func 25) [] []), (6, .i s9.1), (7, .i b14.1)]) (fun b14 => [(90009000, .row 36 true 3 (List.map TRoute.pc b14.2)), (90009999, .hold (.hs 90009000 0) (T.getD 0 undef))]) rfl rfl (fun s13 x15 hr => ?_) (fun b14 hr => ?_)
    ·
     unfold slices_stableCmpFunc_api_Route_l3 at hr
     refine rn tk 8 rfl ?_
     refine ac 35 hr rfl (fun c16 hr => ?_) (fun c16 hr => ?_)
     ·
      refine rn tk 12 rfl ?_
      obtain ⟨v17, h18, hr⟩ := bind_some hr
      refine wo (opTo_callS (k := 43) (slices_symMergeCmpFunc_api_Route_run s13.2.2 s13.1 ((w64 (s13.1 + s9.1))) s13.2.1 v17 h18) rfl rfl (stoLe_cons rfl stoLe_nil)) rfl ?_
      refine rn tk 16 rfl ?_
      cases hr
      exact atc rfl rfl
     ·
      refine rn tk 2 rfl ?_
      cases hr
      exact ato rfl rfl rfl rfl
    ·
     refine rn tk 2 rfl ?_
     refine jb hr (fun j19 => [(0, .hs 90009000 0), (1, .i a1), (2, .fn (.func 25) [] []), (6, .i s9.1)]) (fun j19 => [(90009000, .row 36 true 3 (List.map TRoute.pc j19)), (90009999, .hold (.hs 90009000 0) (T.getD 0 undef))]) (fun j19 hr => ?_) (fun j19 hr => ?_)
     ·
      refine rn tk 15 rfl ?_
      refine ac 54 hr rfl (fun c20 hr => ?_) (fun c20 hr => ?_)
      ·
       refine rn tk 6 rfl ?_
       obtain ⟨v21, h22, hr⟩ := bind_some hr
       refine wo (opTo_callS (k := 60) (slices_symMergeCmpFunc_api_Route_run b14.2 b14.1 ((w64 (b14.1 + s9.1))) a1 v21 h22) rfl rfl (stoLe_cons rfl stoLe_nil)) rfl ?_
       refine rn tk 1 rfl ?_
       cases hr
       exact jn _ rfl rfl rfl
      ·
       refine rn tk 1 rfl ?_
       cases hr
       exact jn _ rfl rfl rfl
     ·
      refine rn tk 6 rfl ?_
      cases hr
      exact atc rfl rfl
   ·
    refine rn tk 2 rfl ?_
    cases hr
    exact ato rfl rfl rfl rfl
  ·
   refine rn tk 1 rfl ?_
   cases hr
   exact krS tk (.inl rfl) rfl rfl (stoLe_cons rfl (stoLe_cons rfl stoLe_nil))
theorem routes_Find_run (a0 : List TRoute) (a1 : Str) (r : (List Str) × TFault) (hr : routes_Find a0 a1 = some r) : Run Try.prog 7 [.l TRoute.pc a0, .s a1] (.tup [.l cS r.1, .agg [.i r.2.Code, .i r.2.Index]]) := by
 unfold routes_Find at hr
 refine rf (fn := Try.f7) ⟨Try.func7, rfl, by kernel_rfl⟩ rfl (fun _ => rfl) fun g0 hg => ?_
 refine rn tk 10 rfl ?_
 obtain ⟨v1, h2, hr⟩ := bind_some hr
 refine cl (routes_Validate_run _ _ h2) rfl rfl ?_
 refine rn tk 7 rfl ?_
 obtain ⟨v3, h4, hr⟩ := bind_some hr
 refine cl (basic_Failed_run _ _ h4) rfl rfl ?_
 refine rn tk 2 rfl ?_
 refine ac 15 hr rfl (fun c5 hr => ?_) (fun c5 hr => ?_)
 ·
  refine rn tk 1 rfl ?_
  refine dr 2 [(4, .pv (.sl (some true) [])), (16, .agg [.i v1.Code, .i v1.Index])] mixed (by kernel_rfl) rfl rfl (pq tk rfl (.plain rfl) (pq tk rfl (.plain rfl) .nil)) rfl ?_
  refine rn tk 5 rfl ?_
  cases hr
  exact kr tk (.inr rfl) rfl rfl
 ·
  refine rn tk 6 rfl ?_
  obtain ⟨v6, h7, hr⟩ := bind_some hr
  refine cl (envelope_Domain_run _ _ h7) rfl rfl ?_
  refine rn tk 3 rfl ?_
  refine ac 19 hr rfl (fun c8 hr => ?_) (fun c8 hr => ?_)
  ·
   refine rn tk 2 rfl ?_
   obtain ⟨v9, h10, hr⟩ := bind_some hr
   refine cl (basic_Fault_run _ _ _ h10) rfl rfl ?_
   refine rn tk 6 rfl ?_
   cases hr
   exact kr tk (.inr rfl) rfl rfl
  ·
   refine rn tk 6 rfl ?_
   obtain ⟨v11, h12, hr⟩ := bind_some hr
   refine cl (routes_best_run _ _ _ h12) rfl rfl ?_
   refine rn tk 11 rfl ?_
   refine ac 25 hr rfl (fun c13 hr => ?_) (fun c13 hr => ?_)
   ·
    refine rn tk 2 rfl ?_
    obtain ⟨v14, h15, hr⟩ := bind_some hr
    refine cl (basic_Fault_run _ _ _ h15) rfl rfl ?_
    refine rn tk 6 rfl ?_
    cases hr
    exact kr tk (.inr rfl) rfl rfl
   ·
    refine rn tk 5 rfl ?_
    refine ct hr (fun j16 => [(5, .ptr 5 0), (7, .ptr 7 0), (28, .hs 2002 0)]) (fun j16 => [(2002, .row 36 true 3 (List.map TRoute.pc j16)), (7, .cells [.s v11]), (5, .cells [.i 0, .i 0])]) (fun j16 hr jump1 => ?_) (fun j16 hr => ?_)
    ·
     refine il (fn := Try.f22) (args := [.l TRoute.pc a0]) 100000 199999 [(5, .ptr 5 0), (7, .ptr 7 0)] rfl ⟨Try.func22, rfl, by kernel_rfl⟩ rfl rfl rfl fun T1 ds1 => ?_
     refine rn tk 3 rfl ?_
     refine awpl_adoptM 1002 (d := 2) 36 3 rfl rfl rfl (hO ?_)
     refine rn tk 6 rfl ?_
     refine awpl_isnil (d := 3) (F := TRoute.pc) (l := a0) rfl rfl rfl ty_s_api_Route (fun c17 => hO ?_) (hO ?_)
     ·
      replace hr := nilE_nil c17 hr
      refine rn tk 6 rfl ?_
      refine awpl_adoptM 2002 (d := 2) 36 3 rfl rfl rfl (hO ?_)
      refine rn tk 4 rfl ?_
      refine ie tk [.hs 2002 0] [(5, .ptr 5 0), (7, .ptr 7 0)] [(2002, .row 36 true 3 (List.map TRoute.pc (([] : List TRoute)))), (1002, .row 36 true 3 (List.map TRoute.pc (([] : List TRoute)))), (7, .cells [.s v11]), (6, .cells [.i v1.Code, .i v1.Index]), (5, .cells [.i 0, .i 0])] (.inr rfl) rfl rfl rfl rfl ?_
      cases hr
      exact jump1 _ _ rfl rfl
     ·
      replace hr := nilE_not hr
      refine rn tk 7 rfl ?_
      refine wo (opTo_litz (k := 5) rfl ty_s_api_Route ty_api_Route) rfl ?_
      refine rn tk 1 rfl ?_
      obtain ⟨v18, h19, hr⟩ := bind_some hr
      refine wo (opTo_appendz (k := 7) (F := TRoute.pc) (xs := a0) (lim := 3518437208883) 2002 rfl rfl rfl ty_s_api_Route ty_api_Route rfl rfl (fun _ => rfl) rfl rfl rfl h19) rfl ?_
      refine rn tk 4 rfl ?_
      refine ie tk [.hs 2002 0] [(5, .ptr 5 0), (7, .ptr 7 0)] [(2002, .row 36 true 3 (List.map TRoute.pc v18)), (1002, .row 36 true 3 (List.map TRoute.pc (([] : List TRoute)))), (7, .cells [.s v11]), (6, .cells [.i v1.Code, .i v1.Index]), (5, .cells [.i 0, .i 0])] (.inr rfl) rfl rfl rfl rfl ?_
      cases hr
      exact jump1 _ _ rfl rfl
    ·
     refine rn tk 1 rfl ?_
     refine ct hr (fun j20 => [(5, .ptr 5 0), (30, .hs 2002 0)]) (fun j20 => [(2002, .row 36 true 3 (List.map TRoute.pc j20)), (5, .cells [.i 0, .i 0])]) (fun j20 hr jump2 => ?_) (fun j20 hr => ?_)
     ·
      refine il (fn := Try.f21) (args := [.hs 2002 0, .fn (.func 23) [] [.ptr 7 0]]) 200000 299999 [(5, .ptr 5 0)] rfl ⟨Try.func21, rfl, by kernel_rfl⟩ rfl rfl rfl fun T2 ds2 => ?_
      refine rn tk 3 rfl ?_
      refine awpl_adoptM 1004 (d := 4) 36 3 rfl rfl rfl (hO ?_)
      refine rn tk 6 rfl ?_
      refine ct hr (fun j21 => [(0, .hs 2002 0), (1, .fn (.func 23) [] [.ptr 7 0]), (10, .i j21)]) (fun j21 => [(299999, .sus g0.w.heap.size ds2), (200005, .hold (.ptr 5 0) (T2.getD 5 undef)), (2002, .row 36 true 3 (List.map TRoute.pc j16)), (7, .cells [.s v11]), (5, .cells [.i 0, .i 0])]) (fun j21 hr jump3 => ?_) (fun j21 hr => ?_)
      ·
       refine il (fn := Try.f35) (args := [.hs 2002 0, .fn (.func 23) [] [.ptr 7 0]]) 300000 399999 [(0, .hs 2002 0), (1, .fn (.func 23) [] [.ptr 7 0])] rfl ⟨Try.func35, rfl, by kernel_rfl⟩ rfl rfl rfl fun T3 ds3 => ?_
       refine rn tk 9 rfl ?_
       refine wnh tk rfl rfl rfl rfl ?_
       refine rn tk 4 rfl ?_
       refine al2 hr (fun s22 => [(0, .hs 2002 0), (1, .fn (.func 23) [] [.ptr 7 0]), (7, .i ((j16.length : Int))), (8, .i s22)]) (fun s22 => [(399999, .sus g0.w.heap.size ds3), (300000, .hold (.hs 2002 0) (T3.getD 0 undef)), (300001, .hold (.fn (.func 23) [] [.ptr 7 0]) (T3.getD 1 undef)), (299999, .sus g0.w.heap.size ds2), (200005, .hold (.ptr 5 0) (T2.getD 5 undef)), (2002, .row 36 true 3 (List.map TRoute.pc j16)), (7, .cells [.s v11]), (5, .cells [.i 0, .i 0])]) (.exit 0) (fun b23 => []) (fun b23 => [(399999, .sus g0.w.heap.size ds3), (300000, .hold (.hs 2002 0) (T3.getD 0 undef)), (300001, .hold (.fn (.func 23) [] [.ptr 7 0]) (T3.getD 1 undef)), (299999, .sus g0.w.heap.size ds2), (200005, .hold (.ptr 5 0) (T2.getD 5 undef)), (2002, .row 36 true 3 (List.map TRoute.pc j16)), (7, .cells [.s v11]), (5, .cells [.i 0, .i 0])]) .ret (fun b24 => [(4, .i b24)]) (fun b24 => [(399999, .sus g0.w.heap.size ds3), (300000, .hold (.hs 2002 0) (T3.getD 0 undef)), (300001, .hold (.fn (.func 23) [] [.ptr 7 0]) (T3.getD 1 undef)), (299999, .sus g0.w.heap.size ds2), (200005, .hold (.ptr 5 0) (T2.getD 5 undef)), (2002, .row 36 true 3 (List.map TRoute.pc j16)), (7, .cells [.s v11]), (5, .cells [.i 0, .i 0])]) rfl rfl (fun s22 x26 hr => ?_) (fun b23 hr => ?_) (fun b24 hr => ?_)
       ·
        unfold routes_Find_l1 at hr
        refine rn tk 6 rfl ?_
        refine ac 9 hr rfl (fun c27 hr => ?_) (fun c27 hr => ?_)
        ·
         refine rn tk 15 rfl ?_
         obtain ⟨v28, h29, hr⟩ := bind_some hr
         refine wih tk h29 rfl rfl rfl rfl rfl ?_
         obtain ⟨v30, h31, hr⟩ := bind_some hr
         refine wq (ev_hloadN (F := TRoute.pc) (l := j16) (n := s22) (j := 0) rfl rfl ty_api_Route rfl h31 rfl) rfl rfl rfl ?_
         refine il (fn := Try.f23) (args := [.agg [.s v30.Pattern, .s v30.Host, .i v30.Preference], .ptr 7 0]) 500000 599999 [(0, .hs 2002 0), (1, .fn (.func 23) [] [.ptr 7 0]), (5, .i s22), (7, .i ((j16.length : Int))), (8, .i s22)] rfl ⟨Try.func23, rfl, by kernel_rfl⟩ rfl rfl rfl fun T5 ds5 => ?_
         refine rn tk 16 rfl ?_
         refine ie tk [.bo ((v30.Pattern != v11))] [(0, .hs 2002 0), (1, .fn (.func 23) [] [.ptr 7 0]), (5, .i s22), (7, .i ((j16.length : Int))), (8, .i s22)] [(2, .cells [.s v30.Pattern, .s v30.Host, .i v30.Preference]), (399999, .sus g0.w.heap.size ds3), (300000, .hold (.hs 2002 0) (T3.getD 0 undef)), (300001, .hold (.fn (.func 23) [] [.ptr 7 0]) (T3.getD 1 undef)), (299999, .sus g0.w.heap.size ds2), (200005, .hold (.ptr 5 0) (T2.getD 5 undef)), (2002, .row 36 true 3 (List.map TRoute.pc j16)), (7, .cells [.s v11]), (5, .cells [.i 0, .i 0])] (.inr rfl) rfl rfl rfl rfl (hO ?_)
         refine rn tk 2 rfl ?_
         refine ac 16 hr rfl (fun c32 hr => ?_) (fun c32 hr => ?_)
         ·
          refine rn tk 9 rfl ?_
          cases hr
          exact ato rfl rfl rfl rfl
         ·
          refine rn tk 7 rfl ?_
          cases hr
          exact atc rfl rfl
        ·
         refine rn tk 2 rfl ?_
         cases hr
         exact ato rfl rfl rfl rfl
       ·
        refine rn tk 8 rfl ?_
        refine ie tk [.i ((-1))] [(0, .hs 2002 0), (1, .fn (.func 23) [] [.ptr 7 0])] [(299999, .sus g0.w.heap.size ds2), (200005, .hold (.ptr 5 0) (T2.getD 5 undef)), (2002, .row 36 true 3 (List.map TRoute.pc j16)), (7, .cells [.s v11]), (5, .cells [.i 0, .i 0])] (.inr rfl) rfl rfl rfl rfl ?_
        cases hr
        exact jump3 _ _ rfl rfl
       ·
        refine rn tk 2 rfl ?_
        refine ie tk [.i b24] [(0, .hs 2002 0), (1, .fn (.func 23) [] [.ptr 7 0])] [(299999, .sus g0.w.heap.size ds2), (200005, .hold (.ptr 5 0) (T2.getD 5 undef)), (2002, .row 36 true 3 (List.map TRoute.pc j16)), (7, .cells [.s v11]), (5, .cells [.i 0, .i 0])] (.inr rfl) rfl rfl rfl rfl ?_
        cases hr
        exact jump3 _ _ rfl rfl
      ·
       refine rn tk 10 rfl ?_
       refine ac 12 hr rfl (fun c33 hr => ?_) (fun c33 hr => ?_)
       ·
        refine rn tk 8 rfl ?_
        refine ie tk [.hs 2002 0] [(5, .ptr 5 0)] [(2002, .row 36 true 3 (List.map TRoute.pc j16)), (7, .cells [.s v11]), (5, .cells [.i 0, .i 0])] (.inr rfl) rfl rfl rfl rfl ?_
        cases hr
        exact jump2 _ _ rfl rfl
       ·
        refine rn tk 11 rfl ?_
        refine al1 hr (fun s34 => [(0, .hs 2002 0), (1, .fn (.func 23) [] [.ptr 7 0]), (5, .i s34.1), (6, .i s34.2.1)]) (fun s34 => [(299999, .sus g0.w.heap.size ds2), (200005, .hold (.ptr 5 0) (T2.getD 5 undef)), (2002, .row 36 true 3 (List.map TRoute.pc s34.2.2)), (7, .cells [.s v11]), (5, .cells [.i 0, .i 0])]) (.exit 0) (fun b35 => [(0, .hs 2002 0), (5, .i b35.1)]) (fun b35 => [(299999, .sus g0.w.heap.size ds2), (200005, .hold (.ptr 5 0) (T2.getD 5 undef)), (2002, .row 36 true 3 (List.map TRoute.pc b35.2)), (5, .cells [.i 0, .i 0])]) rfl rfl (fun s34 x36 hr => ?_) (fun b35 hr => ?_)
        ·
         unfold routes_Find_l2 at hr
         refine rn tk 5 rfl ?_
         refine wnh tk rfl rfl rfl rfl ?_
         refine rn tk 3 rfl ?_
         refine ac 19 hr rfl (fun c37 hr => ?_) (fun c37 hr => ?_)
         ·
          refine rn tk 2 rfl ?_
          refine jb hr (fun j38 => [(0, .hs 2002 0), (1, .fn (.func 23) [] [.ptr 7 0]), (5, .i j38.1), (6, .i s34.2.1)]) (fun j38 => [(299999, .sus g0.w.heap.size ds2), (200005, .hold (.ptr 5 0) (T2.getD 5 undef)), (2002, .row 36 true 3 (List.map TRoute.pc j38.2)), (7, .cells [.s v11]), (5, .cells [.i 0, .i 0])]) (fun j38 hr => ?_) (fun j38 hr => ?_)
          ·
           refine rn tk 5 rfl ?_
           obtain ⟨v39, h40, hr⟩ := bind_some hr
           refine wih tk h40 rfl rfl rfl rfl rfl ?_
           obtain ⟨v41, h42, hr⟩ := bind_some hr
           refine wq (ev_hloadN (F := TRoute.pc) (l := s34.2.2) (n := s34.2.1) (j := 0) rfl rfl ty_api_Route rfl h42 rfl) rfl rfl rfl ?_
           refine wo (opTo_alloc (k := 7) 1007 rfl ty_api_Route (.inr ⟨rfl, rfl⟩) rfl rfl rfl) rfl ?_
           refine rn tk 7 rfl ?_
           refine il (fn := Try.f23) (args := [.agg [.s v41.Pattern, .s v41.Host, .i v41.Preference], .ptr 7 0]) 1100000 1199999 [(0, .hs 2002 0), (1, .fn (.func 23) [] [.ptr 7 0]), (5, .i s34.1), (6, .i s34.2.1), (7, .ptr 1007 0)] rfl ⟨Try.func23, rfl, by kernel_rfl⟩ rfl rfl rfl fun T11 ds11 => ?_
           refine rn tk 16 rfl ?_
           refine ie tk [.bo ((v41.Pattern != v11))] [(0, .hs 2002 0), (1, .fn (.func 23) [] [.ptr 7 0]), (5, .i s34.1), (6, .i s34.2.1), (7, .ptr 1007 0)] [(2, .cells [.s v41.Pattern, .s v41.Host, .i v41.Preference]), (1007, .cells [.s v41.Pattern, .s v41.Host, .i v41.Preference]), (299999, .sus g0.w.heap.size ds2), (200005, .hold (.ptr 5 0) (T2.getD 5 undef)), (2002, .row 36 true 3 (List.map TRoute.pc s34.2.2)), (7, .cells [.s v11]), (5, .cells [.i 0, .i 0])] (.inr rfl) rfl rfl rfl rfl (hO ?_)
           refine rn tk 3 rfl ?_
           refine ac 29 hr rfl (fun c43 hr => ?_) (fun c43 hr => ?_)
           ·
            refine rn tk 5 rfl ?_
            obtain ⟨v44, h45, hr⟩ := bind_some hr
            refine wih tk h45 rfl rfl rfl rfl rfl ?_
            obtain ⟨v46, h47, hr⟩ := bind_some hr
            refine wo (opTo_hstore (F := TRoute.pc) (l := s34.2.2) (n := s34.1) (j := 0) (v := v46) (v' := v41) (pcs := [pS v41.Pattern, pS v41.Host, pI v41.Preference]) rfl rfl rfl ty_api_Route rfl h47 rfl rfl) rfl ?_
            refine rn tk 8 rfl ?_
            cases hr
            exact jn _ rfl rfl rfl
           ·
            refine rn tk 2 rfl ?_
            cases hr
            exact jn _ rfl rfl rfl
          ·
           refine rn tk 5 rfl ?_
           cases hr
           exact atc rfl rfl
         ·
          refine rn tk 2 rfl ?_
          cases hr
          exact ato rfl rfl rfl rfl
        ·
         refine rn tk 6 rfl ?_
         obtain ⟨v48, h49, hr⟩ := bind_some hr
         refine wq (ev_hsub (F := TRoute.pc) (l := b35.2) (p := b35.1) rfl rfl rfl ty_s_api_Route ty_api_Route h49) rfl rfl rfl ?_
         refine wo (opTo_clear (F := TRoute.pc) (l := b35.2) (z := ((TRoute.mk (([] : Str)) (([] : Str)) 0))) rfl rfl ty_s_api_Route ty_api_Route rfl rfl) rfl ?_
         refine rn tk 6 rfl ?_
         obtain ⟨v50, h51, hr⟩ := bind_some hr
         refine wo (opTo_hcutH (k := 41) (F := TRoute.pc) (l := ((clr0 b35.2 (Int.toNat b35.1) ((TRoute.mk (([] : Str)) (([] : Str)) 0))))) rfl rfl rfl rfl ty_s_api_Route ty_api_Route h51) rfl ?_
         refine rn tk 4 rfl ?_
         refine ie tk [.hs 2002 0] [(5, .ptr 5 0)] [(2002, .row 36 true 3 (List.map TRoute.pc v50)), (5, .cells [.i 0, .i 0])] (.inr rfl) rfl rfl rfl rfl ?_
         cases hr
         exact jump2 _ _ rfl rfl
     ·
      refine rn tk 6 rfl ?_
      refine il (fn := Try.f24) (args := [.hs 2002 0, .fn (.func 25) [] []]) 1200000 1299999 [(5, .ptr 5 0), (8, .hs 2002 0)] rfl ⟨Try.func24, rfl, by kernel_rfl⟩ rfl rfl rfl fun T12 ds12 => ?_
      refine rn tk 3 rfl ?_
      refine wnh tk rfl rfl rfl rfl ?_
      refine rn tk 1 rfl ?_
      refine awpl_ren 2002 90009000 rfl rfl rfl rfl rfl rfl (hO ?_)
      obtain ⟨v52, h53, hr⟩ := bind_some hr
      refine wo (opTo_callS (k := 8) (slices_stableCmpFunc_api_Route_run j20 ((j20.length : Int)) v52 h53) rfl rfl (stoLe_cons rfl stoLe_nil)) rfl ?_
      refine rn tk 1 rfl ?_
      refine ie tk [] [(5, .ptr 5 0), (8, .hs 90009000 0)] [(90009000, .row 36 true 3 (List.map TRoute.pc v52)), (5, .cells [.i 0, .i 0])] (.inl rfl) rfl rfl rfl rfl (hO ?_)
      refine rn tk 5 rfl ?_
      refine awpl_adopt 1009 (d := 9) 9 1 rfl rfl rfl (hO ?_)
      refine rn tk 6 rfl ?_
      refine wnh tk rfl rfl rfl rfl ?_
      refine rn tk 4 rfl ?_
      refine al1 hr (fun s54 => [(5, .ptr 5 0), (9, .hs 1009 0), (33, .hs 90009000 0), (34, .i ((v52.length : Int))), (35, .i s54.1)]) (fun s54 => [(1009, .row 9 false 1 (List.map cS s54.2)), (90009000, .row 36 true 3 (List.map TRoute.pc v52)), (5, .cells [.i 0, .i 0])]) (.exit 0) (fun b55 => [(5, .ptr 5 0), (9, .hs 1009 0)]) (fun b55 => [(1009, .row 9 false 1 (List.map cS b55)), (5, .cells [.i 0, .i 0])]) rfl rfl (fun s54 x56 hr => ?_) (fun b55 hr => ?_)
      ·
       unfold routes_Find_l3 at hr
       refine rn tk 6 rfl ?_
       refine ac 36 hr rfl (fun c57 hr => ?_) (fun c57 hr => ?_)
       ·
        refine rn tk 2 rfl ?_
        refine jb hr (fun j58 => [(5, .ptr 5 0), (9, .hs 1009 0), (33, .hs 90009000 0), (34, .i ((v52.length : Int))), (35, .i s54.1)]) (fun j58 => [(1009, .row 9 false 1 (List.map cS j58)), (90009000, .row 36 true 3 (List.map TRoute.pc v52)), (5, .cells [.i 0, .i 0])]) (fun j58 hr => ?_) (fun j58 hr => ?_)
        ·
         refine rn tk 3 rfl ?_
         obtain ⟨v59, h60, hr⟩ := bind_some hr
         refine wih tk h60 rfl rfl rfl rfl rfl ?_
         obtain ⟨v61, h62, hr⟩ := bind_some hr
         refine wq (ev_hloadN (F := TRoute.pc) (l := v52) (n := s54.1) (j := 0) rfl rfl ty_api_Route rfl h62 rfl) rfl rfl rfl ?_
         refine rn tk 9 rfl ?_
         refine awpl_pub (d := 39) (F := cS) (l := s54.2) rfl rfl (hO ?_)
         obtain ⟨v63, h64, hr⟩ := bind_some hr
         refine cl (slices_Contains_string_string_run _ _ _ h64) rfl rfl ?_
         refine rn tk 3 rfl ?_
         refine ac 43 hr rfl (fun c65 hr => ?_) (fun c65 hr => ?_)
         ·
          refine rn tk 4 rfl ?_
          refine wz cS ([v61.Host] : List Str) tk rfl rfl (fun _ => rfl) rfl rfl rfl ?_
          obtain ⟨v66, h67, hr⟩ := bind_some hr
          refine wa tk h67 rfl rfl rfl rfl (fun _ => rfl) rfl rfl ?_
          refine rn tk 3 rfl ?_
          cases hr
          exact jn _ rfl rfl rfl
         ·
          refine rn tk 2 rfl ?_
          cases hr
          exact jn _ rfl rfl rfl
        ·
         refine rn tk 4 rfl ?_
         cases hr
         exact atc rfl rfl
       ·
        refine rn tk 2 rfl ?_
        cases hr
        exact ato rfl rfl rfl rfl
      ·
       refine rn tk 5 rfl ?_
       obtain ⟨v68, h69, hr⟩ := bind_some hr
       refine cl (basic_None_run _ h69) rfl rfl ?_
       refine rn tk 4 rfl ?_
       refine awp_pub (d := 4) (F := cS) (l := b55) rfl rfl (hC ?_)
       refine rn tk 1 rfl ?_
       cases hr
       exact kr tk (.inr rfl) rfl rfl
theorem L_finds_run  (r : Bool) (hr : L_finds = some r) : Run Try.prog 8 [] (.bo r) := by
 unfold L_finds at hr
 refine rf (fn := Try.f8) ⟨Try.func8, rfl, by kernel_rfl⟩ rfl (fun _ => rfl) fun g0 hg => ?_
 refine rn tk 10 rfl ?_
 refine wz TRoute.pc ([(TRoute.mk (([42] : Str)) (([99] : Str)) 0), (TRoute.mk (([42, 46, 98] : Str)) (([100] : Str)) 2), (TRoute.mk (([42, 46, 98] : Str)) (([101] : Str)) 1)] : List TRoute) tk rfl rfl (fun _ => rfl) rfl rfl rfl ?_
 refine rn tk 6 rfl ?_
 obtain ⟨v1, h2, hr⟩ := bind_some hr
 refine cl (routes_Find_run _ _ _ h2) rfl rfl ?_
 refine rn tk 11 rfl ?_
 obtain ⟨v3, h4, hr⟩ := bind_some hr
 refine cl (routes_Find_run _ _ _ h4) rfl rfl ?_
 refine rn tk 10 rfl ?_
 obtain ⟨v5, h6, hr⟩ := bind_some hr
 refine cl (routes_Find_run _ _ _ h6) rfl rfl ?_
 refine rn tk 8 rfl ?_
 refine jb hr (fun j7 => [(0, .bo j7)]) (fun j7 => []) (fun j7 hr => ?_) (fun j7 hr => ?_)
 ·
  refine bool_split ((v1.2.Code == 0)) (fun c8 => ?_) (fun c8 => ?_)
  ·
   replace hr := cond_t c8 hr
   refine bool_split ((v3.2.Code == 0)) (fun c9 => ?_) (fun c9 => ?_)
   ·
    replace hr := cond_t c9 hr
    obtain ⟨v10, h11, hr⟩ := bind_some hr
    refine bool_split ((allEq [(v5.2.Code == v10.Code), (v5.2.Index == v10.Index)])) (fun c12 => ?_) (fun c12 => ?_)
    ·
     replace hr := cond_t c12 hr
     obtain ⟨v13, h14, hr⟩ := bind_some hr
     refine bool_split v13 (fun c15 => ?_) (fun c15 => ?_)
     ·
      replace hr := cond_t c15 hr
      refine dr 21 [(46, .l cS (([([99] : Str)] : List Str))), (45, .l cS v3.1), (44, .bo v13), (43, .bo v13), (42, .bo v13), (41, .l cS (([([101] : Str), ([100] : Str)] : List Str))), (40, .l cS v1.1), (39, .bo ((allEq [(v5.2.Code == v10.Code), (v5.2.Index == v10.Index)]))), (38, .bo ((allEq [(v5.2.Code == v10.Code), (v5.2.Index == v10.Index)]))), (37, .bo ((allEq [(v5.2.Code == v10.Code), (v5.2.Index == v10.Index)]))), (36, .agg [.i v10.Code, .i v10.Index]), (35, .agg [.i v5.2.Code, .i v5.2.Index]), (34, .bo ((v3.2.Code == 0))), (33, .bo ((v3.2.Code == 0))), (32, .bo ((v3.2.Code == 0))), (31, .i v3.2.Code), (30, .ptr 5 0), (29, .bo ((v1.2.Code == 0))), (28, .bo ((v1.2.Code == 0))), (27, .i v1.2.Code), (26, .ptr 3 0)] mixed (by kernel_rfl) rfl rfl (pq tk rfl (.plain rfl) (pq tk rfl (.plain rfl) (pq tk rfl (.plain rfl) (pq tk rfl (.plain rfl) (pq tk rfl (.yes (d := 29) rfl rfl rfl c8) (pq tk rfl (.yes (d := 29) rfl rfl rfl c8) (pq tk rfl (.yes (d := 29) rfl rfl rfl c8) (.run (.plain rfl) (opG_q (ev_pick_t rfl c8)) (pq tk rfl (.plain rfl) (pq tk rfl (.yes (d := 34) rfl rfl rfl c9) (.run (.yes (d := 34) rfl rfl rfl c9) (opG_call (R_At_run 6 ((-3)) v10 h11) rfl) (.run (.yes (d := 34) rfl rfl rfl c9) (opG_q (ev_structeq rfl rfl ty_api_Fault cmp_api_Fault (.int rfl (by decide) ty_int (.int rfl (by decide) ty_int .nil)))) (.run (.plain rfl) (opG_q (ev_pick_t rfl c9)) (pq tk rfl (.plain rfl) (pq tk rfl (.yes (d := 39) rfl rfl rfl c12) (.run (.yes (d := 39) rfl rfl rfl c12) (opG_lit (F := cS) (l := ([([101] : Str), ([100] : Str)] : List Str)) ty_s_string ty_string rfl (fun _ => rfl) rfl rfl) (.run (.yes (d := 39) rfl rfl rfl c12) (opG_call (R_Strings_run v1.1 (([([101] : Str), ([100] : Str)] : List Str)) v13 h14) rfl) (.run (.plain rfl) (opG_q (ev_pick_t rfl c12)) (pq tk rfl (.plain rfl) (pq tk rfl (.yes (d := 44) rfl rfl rfl c15) (.run (.yes (d := 44) rfl rfl rfl c15) (opG_lit (F := cS) (l := ([([99] : Str)] : List Str)) ty_s_string ty_string rfl (fun _ => rfl) rfl rfl) .nil))))))))))))))))))))) rfl ?_
      refine kn 44 c15 rfl ?_
      obtain ⟨v16, h17, hr⟩ := bind_some hr
      refine ug rfl rfl rfl ?_
      refine cl (R_Strings_run _ _ _ h17) rfl rfl ?_
      refine rn tk 3 rfl ?_
      cases hr
      exact jn _ rfl rfl rfl
     ·
      replace hr := cond_f c15 hr
      refine dr 21 [(46, .tup []), (45, .tup []), (44, .bo v13), (43, .bo v13), (42, .bo v13), (41, .l cS (([([101] : Str), ([100] : Str)] : List Str))), (40, .l cS v1.1), (39, .bo ((allEq [(v5.2.Code == v10.Code), (v5.2.Index == v10.Index)]))), (38, .bo ((allEq [(v5.2.Code == v10.Code), (v5.2.Index == v10.Index)]))), (37, .bo ((allEq [(v5.2.Code == v10.Code), (v5.2.Index == v10.Index)]))), (36, .agg [.i v10.Code, .i v10.Index]), (35, .agg [.i v5.2.Code, .i v5.2.Index]), (34, .bo ((v3.2.Code == 0))), (33, .bo ((v3.2.Code == 0))), (32, .bo ((v3.2.Code == 0))), (31, .i v3.2.Code), (30, .ptr 5 0), (29, .bo ((v1.2.Code == 0))), (28, .bo ((v1.2.Code == 0))), (27, .i v1.2.Code), (26, .ptr 3 0)] mixed (by kernel_rfl) rfl rfl (pq tk rfl (.plain rfl) (pq tk rfl (.plain rfl) (pq tk rfl (.plain rfl) (pq tk rfl (.plain rfl) (pq tk rfl (.yes (d := 29) rfl rfl rfl c8) (pq tk rfl (.yes (d := 29) rfl rfl rfl c8) (pq tk rfl (.yes (d := 29) rfl rfl rfl c8) (.run (.plain rfl) (opG_q (ev_pick_t rfl c8)) (pq tk rfl (.plain rfl) (pq tk rfl (.yes (d := 34) rfl rfl rfl c9) (.run (.yes (d := 34) rfl rfl rfl c9) (opG_call (R_At_run 6 ((-3)) v10 h11) rfl) (.run (.yes (d := 34) rfl rfl rfl c9) (opG_q (ev_structeq rfl rfl ty_api_Fault cmp_api_Fault (.int rfl (by decide) ty_int (.int rfl (by decide) ty_int .nil)))) (.run (.plain rfl) (opG_q (ev_pick_t rfl c9)) (pq tk rfl (.plain rfl) (pq tk rfl (.yes (d := 39) rfl rfl rfl c12) (.run (.yes (d := 39) rfl rfl rfl c12) (opG_lit (F := cS) (l := ([([101] : Str), ([100] : Str)] : List Str)) ty_s_string ty_string rfl (fun _ => rfl) rfl rfl) (.run (.yes (d := 39) rfl rfl rfl c12) (opG_call (R_Strings_run v1.1 (([([101] : Str), ([100] : Str)] : List Str)) v13 h14) rfl) (.run (.plain rfl) (opG_q (ev_pick_t rfl c12)) (pq tk rfl (.plain rfl) (.skip (.no (d := 44) rfl rfl rfl c15) (.skip (.no (d := 44) rfl rfl rfl c15) .nil))))))))))))))))))))) rfl ?_
      refine kn 44 c15 rfl ?_
      refine rn tk 4 rfl ?_
      cases hr
      exact jn _ rfl rfl rfl
    ·
     replace hr := cond_f c12 hr
     refine dr 21 [(46, .tup []), (45, .tup []), (44, .bo false), (43, .bo false), (42, .tup []), (41, .tup []), (40, .tup []), (39, .bo ((allEq [(v5.2.Code == v10.Code), (v5.2.Index == v10.Index)]))), (38, .bo ((allEq [(v5.2.Code == v10.Code), (v5.2.Index == v10.Index)]))), (37, .bo ((allEq [(v5.2.Code == v10.Code), (v5.2.Index == v10.Index)]))), (36, .agg [.i v10.Code, .i v10.Index]), (35, .agg [.i v5.2.Code, .i v5.2.Index]), (34, .bo ((v3.2.Code == 0))), (33, .bo ((v3.2.Code == 0))), (32, .bo ((v3.2.Code == 0))), (31, .i v3.2.Code), (30, .ptr 5 0), (29, .bo ((v1.2.Code == 0))), (28, .bo ((v1.2.Code == 0))), (27, .i v1.2.Code), (26, .ptr 3 0)] mixed (by kernel_rfl) rfl rfl (pq tk rfl (.plain rfl) (pq tk rfl (.plain rfl) (pq tk rfl (.plain rfl) (pq tk rfl (.plain rfl) (pq tk rfl (.yes (d := 29) rfl rfl rfl c8) (pq tk rfl (.yes (d := 29) rfl rfl rfl c8) (pq tk rfl (.yes (d := 29) rfl rfl rfl c8) (.run (.plain rfl) (opG_q (ev_pick_t rfl c8)) (pq tk rfl (.plain rfl) (pq tk rfl (.yes (d := 34) rfl rfl rfl c9) (.run (.yes (d := 34) rfl rfl rfl c9) (opG_call (R_At_run 6 ((-3)) v10 h11) rfl) (.run (.yes (d := 34) rfl rfl rfl c9) (opG_q (ev_structeq rfl rfl ty_api_Fault cmp_api_Fault (.int rfl (by decide) ty_int (.int rfl (by decide) ty_int .nil)))) (.run (.plain rfl) (opG_q (ev_pick_t rfl c9)) (pq tk rfl (.plain rfl) (.skip (.no (d := 39) rfl rfl rfl c12) (.skip (.no (d := 39) rfl rfl rfl c12) (.skip (.no (d := 39) rfl rfl rfl c12) (.run (.plain rfl) (opG_q (ev_pick_f rfl c12)) (pq tk rfl (.plain rfl) (.skip (.no (d := 44) rfl rfl rfl rfl) (.skip (.no (d := 44) rfl rfl rfl rfl) .nil))))))))))))))))))))) rfl ?_
     refine rn tk 4 rfl ?_
     cases hr
     exact jn _ rfl rfl rfl
   ·
    replace hr := cond_f c9 hr
    refine dr 21 [(46, .tup []), (45, .tup []), (44, .bo false), (43, .bo false), (42, .tup []), (41, .tup []), (40, .tup []), (39, .bo false), (38, .bo false), (37, .tup []), (36, .tup []), (35, .tup []), (34, .bo ((v3.2.Code == 0))), (33, .bo ((v3.2.Code == 0))), (32, .bo ((v3.2.Code == 0))), (31, .i v3.2.Code), (30, .ptr 5 0), (29, .bo ((v1.2.Code == 0))), (28, .bo ((v1.2.Code == 0))), (27, .i v1.2.Code), (26, .ptr 3 0)] mixed (by kernel_rfl) rfl rfl (pq tk rfl (.plain rfl) (pq tk rfl (.plain rfl) (pq tk rfl (.plain rfl) (pq tk rfl (.plain rfl) (pq tk rfl (.yes (d := 29) rfl rfl rfl c8) (pq tk rfl (.yes (d := 29) rfl rfl rfl c8) (pq tk rfl (.yes (d := 29) rfl rfl rfl c8) (.run (.plain rfl) (opG_q (ev_pick_t rfl c8)) (pq tk rfl (.plain rfl) (.skip (.no (d := 34) rfl rfl rfl c9) (.skip (.no (d := 34) rfl rfl rfl c9) (.skip (.no (d := 34) rfl rfl rfl c9) (.run (.plain rfl) (opG_q (ev_pick_f rfl c9)) (pq tk rfl (.plain rfl) (.skip (.no (d := 39) rfl rfl rfl rfl) (.skip (.no (d := 39) rfl rfl rfl rfl) (.skip (.no (d := 39) rfl rfl rfl rfl) (pq tk rfl (.plain rfl) (pq tk rfl (.plain rfl) (.skip (.no (d := 44) rfl rfl rfl rfl) (.skip (.no (d := 44) rfl rfl rfl rfl) .nil))))))))))))))))))))) rfl ?_
    refine rn tk 4 rfl ?_
    cases hr
    exact jn _ rfl rfl rfl
  ·
   replace hr := cond_f c8 hr
   refine dr 21 [(46, .tup []), (45, .tup []), (44, .bo false), (43, .bo false), (42, .tup []), (41, .tup []), (40, .tup []), (39, .bo false), (38, .bo false), (37, .tup []), (36, .tup []), (35, .tup []), (34, .bo false), (33, .bo false), (32, .tup []), (31, .tup []), (30, .tup []), (29, .bo ((v1.2.Code == 0))), (28, .bo ((v1.2.Code == 0))), (27, .i v1.2.Code), (26, .ptr 3 0)] mixed (by kernel_rfl) rfl rfl (pq tk rfl (.plain rfl) (pq tk rfl (.plain rfl) (pq tk rfl (.plain rfl) (pq tk rfl (.plain rfl) (.skip (.no (d := 29) rfl rfl rfl c8) (.skip (.no (d := 29) rfl rfl rfl c8) (.skip (.no (d := 29) rfl rfl rfl c8) (.run (.plain rfl) (opG_q (ev_pick_f rfl c8)) (pq tk rfl (.plain rfl) (.skip (.no (d := 34) rfl rfl rfl rfl) (.skip (.no (d := 34) rfl rfl rfl rfl) (.skip (.no (d := 34) rfl rfl rfl rfl) (pq tk rfl (.plain rfl) (pq tk rfl (.plain rfl) (.skip (.no (d := 39) rfl rfl rfl rfl) (.skip (.no (d := 39) rfl rfl rfl rfl) (.skip (.no (d := 39) rfl rfl rfl rfl) (pq tk rfl (.plain rfl) (pq tk rfl (.plain rfl) (.skip (.no (d := 44) rfl rfl rfl rfl) (.skip (.no (d := 44) rfl rfl rfl rfl) .nil))))))))))))))))))))) rfl ?_
   refine rn tk 4 rfl ?_
   cases hr
   exact jn _ rfl rfl rfl
 ·
  refine rn tk 1 rfl ?_
  cases hr
  exact kr tk (.inr rfl) rfl rfl
theorem R_Has_run (a0 : List Str) (a1 : Str) (r : Bool) (hr : R_Has a0 a1 = some r) : Run Try.prog 14 [.l cS a0, .s a1] (.bo r) := by
 unfold R_Has at hr
 refine rf (fn := Try.f14) ⟨Try.func14, rfl, by kernel_rfl⟩ rfl (fun _ => rfl) fun g0 hg => ?_
 refine rn tk 12 rfl ?_
 refine al2 hr (fun s1 => [(0, .l cS a0), (1, .s a1), (5, .i s1)]) (fun s1 => []) (.exit 0) (fun b2 => []) (fun b2 => []) .ret (fun b3 => [(4, .bo b3)]) (fun b3 => []) rfl rfl (fun s1 x5 hr => ?_) (fun b2 hr => ?_) (fun b3 hr => ?_)
 ·
  unfold R_Has_l1 at hr
  refine rn tk 5 rfl ?_
  refine wn tk rfl rfl rfl ?_
  refine rn tk 3 rfl ?_
  refine ac 9 hr rfl (fun c6 hr => ?_) (fun c6 hr => ?_)
  ·
   refine rn tk 8 rfl ?_
   obtain ⟨v7, h8, hr⟩ := bind_some hr
   refine wi tk h8 rfl rfl rfl rfl rfl ?_
   refine rn tk 5 rfl ?_
   refine ac 17 hr rfl (fun c9 hr => ?_) (fun c9 hr => ?_)
   ·
    refine rn tk 8 rfl ?_
    cases hr
    exact ato rfl rfl rfl rfl
   ·
    refine rn tk 8 rfl ?_
    cases hr
    exact atc rfl rfl
  ·
   refine rn tk 2 rfl ?_
   cases hr
   exact ato rfl rfl rfl rfl
 ·
  refine rn tk 8 rfl ?_
  cases hr
  exact kr tk (.inr rfl) rfl rfl
 ·
  refine rn tk 2 rfl ?_
  cases hr
  exact kr tk (.inr rfl) rfl rfl
theorem L_RoutesHostsOnce_run (a0 : List TRoute) (a1 : Str) (r : Bool) (hr : L_RoutesHostsOnce a0 a1 = some r) : Run Try.prog 5 [.l TRoute.pc a0, .s a1] (.bo r) := by
 unfold L_RoutesHostsOnce at hr
 refine rf (fn := Try.f5) ⟨Try.func5, rfl, by kernel_rfl⟩ rfl (fun _ => rfl) fun g0 hg => ?_
 refine rn tk 9 rfl ?_
 obtain ⟨v1, h2, hr⟩ := bind_some hr
 refine cl (routes_Find_run _ _ _ h2) rfl rfl ?_
 refine rn tk 9 rfl ?_
 refine jb hr (fun j3 => [(0, .l TRoute.pc a0), (5, .l cS v1.1), (22, .bo j3)]) (fun j3 => []) (fun j3 hr => ?_) (fun j3 hr => ?_)
 ·
  refine rn tk 1 rfl ?_
  obtain ⟨v4, h5, hr⟩ := bind_some hr
  refine cl (L_finds_run _ h5) rfl rfl ?_
  refine rn tk 2 rfl ?_
  refine bs 18 hr rfl (fun c6 hr => ?_) (fun c6 hr => ?_)
  ·
   refine rn tk 5 rfl ?_
   cases hr
   exact jn _ rfl rfl rfl
  ·
   refine rn tk 5 rfl ?_
   cases hr
   exact jn _ rfl rfl rfl
 ·
  refine ac 22 hr rfl (fun c7 hr => ?_) (fun c7 hr => ?_)
  ·
   refine jb hr (fun j8 => [(4, .bo j8)]) (fun j8 => []) (fun j8 hr => ?_) (fun j8 hr => ?_)
   ·
    refine rn tk 1 rfl ?_
    obtain ⟨v9, h10, hr⟩ := bind_some hr
    refine cl (L_finds_run _ h10) rfl rfl ?_
    refine rn tk 1 rfl ?_
    refine bs 24 hr rfl (fun c11 hr => ?_) (fun c11 hr => ?_)
    ·
     refine rn tk 1 rfl ?_
     refine ug rfl rfl rfl ?_
     refine wn tk rfl rfl rfl ?_
     refine rn tk 4 rfl ?_
     cases hr
     exact jn _ rfl rfl rfl
    ·
     refine rn tk 6 rfl ?_
     cases hr
     exact jn _ rfl rfl rfl
   ·
    refine rn tk 2 rfl ?_
    cases hr
    exact kr tk (.inr rfl) rfl rfl
  ·
   refine rn tk 9 rfl ?_
   refine al2 hr (fun s12 => [(0, .l TRoute.pc a0), (5, .l cS v1.1), (7, .i s12)]) (fun s12 => []) (.exit 0) (fun b13 => [(5, .l cS v1.1)]) (fun b13 => []) .ret (fun b14 => [(4, .bo b14)]) (fun b14 => []) rfl rfl (fun s12 x16 hr => ?_) (fun b13 hr => ?_) (fun b14 hr => ?_)
   ·
    unfold L_RoutesHostsOnce_l1 at hr
    refine rn tk 5 rfl ?_
    refine wn tk rfl rfl rfl ?_
    refine rn tk 3 rfl ?_
    refine ac 32 hr rfl (fun c17 hr => ?_) (fun c17 hr => ?_)
    ·
     refine rn tk 16 rfl ?_
     refine al1 hr (fun s18 => [(0, .l TRoute.pc a0), (5, .l cS v1.1), (7, .i s12), (8, .bo s18.1), (9, .i s18.2)]) (fun s18 => []) (.exit 2) (fun b19 => [(0, .l TRoute.pc a0), (5, .l cS v1.1), (7, .i s12), (8, .bo b19)]) (fun b19 => []) rfl rfl (fun s18 x20 hr => ?_) (fun b19 hr => ?_)
     ·
      unfold L_RoutesHostsOnce_l2 at hr
      refine rn tk 5 rfl ?_
      refine wn tk rfl rfl rfl ?_
      refine rn tk 3 rfl ?_
      refine ac 38 hr rfl (fun c21 hr => ?_) (fun c21 hr => ?_)
      ·
       refine rn tk 2 rfl ?_
       refine jb hr (fun j22 => [(0, .l TRoute.pc a0), (5, .l cS v1.1), (7, .i s12), (8, .bo j22), (9, .i s18.2)]) (fun j22 => []) (fun j22 hr => ?_) (fun j22 hr => ?_)
       ·
        refine rn tk 1 rfl ?_
        refine bool_split s18.1 (fun c23 => ?_) (fun c23 => ?_)
        ·
         replace hr := cond_t c23 hr
         refine dr 11 [(51, .tup []), (50, .tup []), (49, .tup []), (48, .tup []), (47, .tup []), (46, .tup []), (45, .tup []), (44, .tup []), (43, .tup []), (42, .bo s18.1), (41, .bo s18.1)] mixed (by kernel_rfl) rfl rfl (pq tk rfl (.plain rfl) (pq tk rfl (.plain rfl) (.skip (.no (d := 42) rfl rfl rfl c23) (.skip (.no (d := 42) rfl rfl rfl c23) (.skip (.no (d := 42) rfl rfl rfl c23) (.skip (.no (d := 42) rfl rfl rfl c23) (.skip (.no (d := 42) rfl rfl rfl c23) (.skip (.no (d := 42) rfl rfl rfl c23) (.skip (.no (d := 42) rfl rfl rfl c23) (.skip (.no (d := 42) rfl rfl rfl c23) (.skip (.no (d := 42) rfl rfl rfl c23) .nil))))))))))) rfl ?_
         refine kn 42 c23 rfl ?_
         refine rn tk 5 rfl ?_
         cases hr
         exact jn _ rfl rfl rfl
        ·
         replace hr := cond_f c23 hr
         obtain ⟨v24, h25, hr⟩ := bind_some hr
         obtain ⟨v26, h27, hr⟩ := bind_some hr
         refine dr 11 [(51, .s v26), (50, .ep [pS v26]), (49, .i s12), (48, .l cS v1.1), (47, .s v24.Host), (46, .ep [pS v24.Host, pI v24.Preference]), (45, .ep [pS v24.Pattern, pS v24.Host, pI v24.Preference]), (44, .i s18.2), (43, .l TRoute.pc a0), (42, .bo s18.1), (41, .bo s18.1)] mixed (by kernel_rfl) rfl rfl (pq tk rfl (.plain rfl) (pq tk rfl (.plain rfl) (pq tk rfl (.yes (d := 42) rfl rfl rfl c23) (pq tk rfl (.yes (d := 42) rfl rfl rfl c23) (.run (.yes (d := 42) rfl rfl rfl c23) (opG_q (ev_idx (f := TRoute.pc) rfl rfl ty_s_api_Route ty_api_Route rfl h25)) (pq tk rfl (.yes (d := 42) rfl rfl rfl c23) (pq tk rfl (.yes (d := 42) rfl rfl rfl c23) (pq tk rfl (.yes (d := 42) rfl rfl rfl c23) (pq tk rfl (.yes (d := 42) rfl rfl rfl c23) (.run (.yes (d := 42) rfl rfl rfl c23) (opG_q (ev_idx (f := cS) rfl rfl ty_s_string ty_string rfl h27)) (pq tk rfl (.yes (d := 42) rfl rfl rfl c23) .nil))))))))))) rfl ?_
         refine kn 42 c23 rfl ?_
         refine rn tk 5 rfl ?_
         cases hr
         exact jn _ rfl rfl rfl
       ·
        refine rn tk 5 rfl ?_
        cases hr
        exact atc rfl rfl
      ·
       refine rn tk 2 rfl ?_
       cases hr
       exact ato rfl rfl rfl rfl
     ·
      refine rn tk 2 rfl ?_
      refine jb hr (fun j28 => [(0, .l TRoute.pc a0), (5, .l cS v1.1), (7, .i s12), (65, .bo j28)]) (fun j28 => []) (fun j28 hr => ?_) (fun j28 hr => ?_)
      ·
       refine bool_split ((!b19)) (fun c29 => ?_) (fun c29 => ?_)
       ·
        replace hr := cond_t c29 hr
        refine dr 10 [(63, .tup []), (62, .tup []), (61, .tup []), (60, .tup []), (59, .tup []), (58, .tup []), (57, .tup []), (56, .bo ((!b19))), (55, .bo ((!b19))), (54, .bo b19)] mixed (by kernel_rfl) rfl rfl (pq tk rfl (.plain rfl) (pq tk rfl (.plain rfl) (pq tk rfl (.plain rfl) (.skip (.no (d := 56) rfl rfl rfl c29) (.skip (.no (d := 56) rfl rfl rfl c29) (.skip (.no (d := 56) rfl rfl rfl c29) (.skip (.no (d := 56) rfl rfl rfl c29) (.skip (.no (d := 56) rfl rfl rfl c29) (.skip (.no (d := 56) rfl rfl rfl c29) (.skip (.no (d := 56) rfl rfl rfl c29) .nil)))))))))) rfl ?_
        refine kn 56 c29 rfl ?_
        refine rn tk 3 rfl ?_
        cases hr
        exact jn _ rfl rfl rfl
       ·
        replace hr := cond_f c29 hr
        obtain ⟨v30, h31, hr⟩ := bind_some hr
        obtain ⟨v32, h33, hr⟩ := bind_some hr
        refine dr 10 [(63, .s v32), (62, .ep [pS v32]), (61, .i s12), (60, .l cS v1.1), (59, .l cS v30), (58, .i s12), (57, .l cS v1.1), (56, .bo ((!b19))), (55, .bo ((!b19))), (54, .bo b19)] mixed (by kernel_rfl) rfl rfl (pq tk rfl (.plain rfl) (pq tk rfl (.plain rfl) (pq tk rfl (.plain rfl) (pq tk rfl (.yes (d := 56) rfl rfl rfl c29) (pq tk rfl (.yes (d := 56) rfl rfl rfl c29) (.run (.yes (d := 56) rfl rfl rfl c29) (opG_q (ev_cutH (F := cS) rfl rfl ty_s_string ty_string (fun _ => rfl) h31)) (pq tk rfl (.yes (d := 56) rfl rfl rfl c29) (pq tk rfl (.yes (d := 56) rfl rfl rfl c29) (.run (.yes (d := 56) rfl rfl rfl c29) (opG_q (ev_idx (f := cS) rfl rfl ty_s_string ty_string rfl h33)) (pq tk rfl (.yes (d := 56) rfl rfl rfl c29) .nil)))))))))) rfl ?_
        refine kn 56 c29 rfl ?_
        obtain ⟨v34, h35, hr⟩ := bind_some hr
        refine ug rfl rfl rfl ?_
        refine cl (R_Has_run _ _ _ h35) rfl rfl ?_
        refine rn tk 2 rfl ?_
        cases hr
        exact jn _ rfl rfl rfl
      ·
       refine ac 65 hr rfl (fun c36 hr => ?_) (fun c36 hr => ?_)
       ·
        refine rn tk 8 rfl ?_
        cases hr
        exact ato rfl rfl rfl rfl
       ·
        refine rn tk 8 rfl ?_
        cases hr
        exact atc rfl rfl
    ·
     refine rn tk 2 rfl ?_
     cases hr
     exact ato rfl rfl rfl rfl
   ·
    refine rn tk 5 rfl ?_
    refine wn tk rfl rfl rfl ?_
    refine rn tk 5 rfl ?_
    cases hr
    exact kr tk (.inr rfl) rfl rfl
   ·
    refine rn tk 2 rfl ?_
    cases hr
    exact kr tk (.inr rfl) rfl rfl
end Go.Proofs.Ytpclhpncmlbccaa

namespace Go.Proofs.Ytpclhpncmlbccaa.routesHostsOnce
open Go.ChangeShapes Go.WideShapes Go.ChangeAt Go.RowKit
set_option linter.unusedVariables false
set_option maxRecDepth 100000

theorem contract (H : Type) (enc : TypeId × Value → H) (W : World) (base : Nat) (args : Array Value) (ds gs : List (DataW H)) (before : List MemPlace)
    (hval : ∀ (j : Nat) t v, Try.f5.params[j]? = some t → args[j]? = some v → Value.okWide Try.prog W .any base t v)
    (hW : DataW.Whole enc Try.prog Try.f5.params.toList Rows.routesHostsOnceSpec.vars false W args.toList ds gs before) (hk : Rows.uptoSmall H (ds ++ gs) = true) (hgl : Gl (gAll W)) :
    Calls Try.prog 5 args W fun e W' => ∃ v, e = .returned v ∧ Rows.routesHostsOnceSpec.post enc Try.prog Try.f5 false true false false W args v W' := by
  have hW' := hW
  obtain ⟨p, q, hA0, hV, rfl, hfz, hnd⟩ := hW
  have hA : DataW.TrodAll enc Try.prog W 0 (fun _ => true) true Try.f5.params.toList args.toList ds p := hA0
  rw [Try.params5] at hA hval
  obtain ⟨v0, vs0, d0, ds0, p0, q0, hargs, rfl, rfl, h0, r0⟩ := trodAll_cons hA
  obtain ⟨v1, vs1, d1, ds1, p1, q1, rfl, rfl, rfl, h1, r1⟩ := trodAll_cons r0
  obtain ⟨rfl, rfl, rfl⟩ := trodAll_nil r1
  obtain rfl : args = #[v0, v1] := by cases args; simp_all
  obtain ⟨rfl, rfl⟩ := trodVars_none hV
  obtain ⟨a0, e0, o0, k0⟩ := arg_one op_s_api_Route (by obtain ⟨_, _, _, h⟩ := okWide_slice ty_s_api_Route.u (hval 0 _ v0 rfl rfl); rw [h]; rfl) h0
  obtain ⟨a1, e1, o1, k1⟩ := arg_one op_string (by obtain ⟨_, h⟩ := okWide_string ty_string.u (hval 1 _ v1 rfl rfl); rw [h]; rfl) h1
  have hk2 := of_decide_eq_true hk
  simp only [List.append_nil, Rows.uptoBulkAll] at hk2
  have ht := L_RoutesHostsOnce_true a0 a1 o0 o1 (by (try dsimp only); omega)
  have key : Calls Try.prog 5 #[v0, v1] W fun e W' => e = .returned (.bool true) ∧ Below W.heap.size W W' := calls_of_run (L_RoutesHostsOnce_run a0 a1 true ht) hgl (relArgs_of (.cons (e0 _ rfl) (.cons (e1 _ rfl) .nil)))
  refine key.mono fun e W' ⟨he, hb⟩ => ⟨_, he, ?_⟩
  exact post_true laidOut (by kernel_rfl) Try.underlying4 (by kernel_rfl) rfl rfl hW' hb

theorem lifted (os : Os) (started : os.Started) (H : Type) (enc : TypeId × Value → H) (F : Stop.Interp) :
    ReturnsInHanded {} Try.checked os 5 .any ((Rows.OpenSpec.upto Rows.routesHostsOnceSpec).pre6 enc Try.prog Try.f5 Rows.routesHostsOnceUptoRow.domain false) (((Rows.OpenSpec.upto Rows.routesHostsOnceSpec).at F).post enc Try.prog Try.f5 false true false false) := by
  refine returnsInHanded_of_cond_shaped (C := Try.checked) (s := Rows.OpenSpec.upto Rows.routesHostsOnceSpec) (k := Rows.uptoSmall) rfl own started (by kernel_rfl) Try.func5
    (OpenSpec.witness (enc := enc) (C := Try.checked) (s := Rows.OpenSpec.upto Rows.routesHostsOnceSpec) (k := Rows.uptoSmall) rfl false ⟨#[], #[.slice none 0 0, .string ⟨#[]⟩], []⟩ 8 (by kernel_rfl) (by kernel_rfl) (by kernel_rfl)
      (x := ([.nil, .lit (.string [])], [], [])) (by kernel_rfl) rfl (by kernel_rfl)) ?_
  intro W base args ds gs before hval hW _ hk hsh _
  exact contract H enc W base args ds gs before hval hW hk (gl_of_shaped hsh)

theorem over : Rows.routesHostsOnceUptoRow.holds Try.pinned (Rows.OpenSpec.upto Rows.routesHostsOnceSpec) :=
  OpenClaim.holds_of_cond 5 Try.f5 rfl rfl rfl rfl rfl rfl rfl ⟨rfl, rfl, rfl, rfl, rfl⟩ rfl rfl rfl rfl rfl (by kernel_rfl) Try.func5 (by kernel_rfl)
    (of_decide_eq_true (by kernel_rfl)) (by unfold Func.isWrapper; first | (rw [if_pos (by decide +kernel)]; kernel_rfl) | (rw [if_neg (by decide +kernel)]; exact ⟨rfl, rfl⟩))
    (fun os started H enc _ F => lifted os started H enc F)

theorem proved : Rows.RoutesHostsOnceUptoSaid := over
#print axioms proved
end Go.Proofs.Ytpclhpncmlbccaa.routesHostsOnce
