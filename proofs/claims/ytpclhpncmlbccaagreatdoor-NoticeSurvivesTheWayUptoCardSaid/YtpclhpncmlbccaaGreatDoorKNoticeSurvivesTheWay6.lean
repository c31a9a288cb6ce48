/- The law NoticeSurvivesTheWay holds for every input of bulk up to the given bound: it returns true and leaves its arguments as they were. Written by program. -/
import Derived.Test.YtpclhpncmlbccaaGreatDoorKNoticeSurvivesTheWay5
import Derived.Test.YtpclhpncmlbccaaGreatDoorProg
import Derived.Tactics
import Derived.Tactics2
import Derived.Defers
import Derived.Laws.Pointers
import Derived.Laws.LoneSync
import Derived.RegionTactic
import Derived.RegionCalls
import Derived.ChangeAlike
import Derived.WalkKit
import Derived.Lib.Walk
import Derived.Lib.Strings
import Derived.Lib.IndexBytes
import Derived.Lib.AsciiSet
import Derived.Laws.Strings3
import Derived.Laws.ResultCell
import Derived.Deep.LoopGhost
import Derived.Deep.WholeRow
import Derived.Shelf.RegionOpenPlain
import Derived.Laws.NewBlocks
import Derived.Laws.Cover3
import Derived.Laws.IdiomStrings
import Derived.Laws.BytesArg
import Derived.Lib.TrimByte
import Derived.Test.YtpclhpncmlbccaaGreatDoorShelf
import Derived.Shelf.Strings.SlTrimAscii
set_option linter.unusedVariables false
set_option linter.unusedSimpArgs false
namespace Go.Proofs.YtpclhpncmlbccaaGreatDoor
open Go.RowKit
set_option maxRecDepth 100000
set_option maxHeartbeats 40000000
set_option linter.unusedVariables false
theorem notice_about_run (a0 : Str) (a1 : Int) (r : Str) (hr : notice_about a0 a1 = some r) : Run Tryz.prog 21 [.s a0, .i a1] (.s r) := by
 unfold notice_about at hr
 refine rf (fn := Tryz.f21) ⟨Tryz.func21, rfl, by kernel_rfl⟩ rfl (fun _ => rfl) fun g0 hg => ?_
 refine rn tk 7 rfl ?_
 obtain ⟨v1, h2, hr⟩ := bind_some hr
 refine cl (notice_kinds_run _ h2) rfl rfl ?_
 refine rn tk 1 rfl ?_
 obtain ⟨v3, h4, hr⟩ := bind_some hr
 refine wq (ev_aidx (f := cS) (L := ([v1.1, v1.2.1, v1.2.2.1, v1.2.2.2.1, v1.2.2.2.2] : List Str)) rfl rfl ty__5_string ty_string rfl rfl (fun _ => rfl) h4 rfl) rfl rfl rfl ?_
 obtain ⟨v5, h6, hr⟩ := bind_some hr
 refine wc h6 rfl rfl rfl ?_
 refine rn tk 1 rfl ?_
 obtain ⟨v7, h8, hr⟩ := bind_some hr
 refine wc h8 rfl rfl rfl ?_
 obtain ⟨v9, h10, hr⟩ := bind_some hr
 refine cl (strings_TrimSuffix_run _ _ _ h10) rfl rfl ?_
 refine rn tk 4 rfl ?_
 cases hr
 exact kr tk (.inr rfl) rfl rfl
theorem notice_results_run  (r : Str × Str × Str × Str) (hr : notice_results = some r) : Run Tryz.prog 54 [] (.agg [.s r.1, .s r.2.1, .s r.2.2.1, .s r.2.2.2]) := by
 unfold notice_results at hr
 refine rf (fn := Tryz.f54) ⟨Tryz.func54, rfl, by kernel_rfl⟩ rfl (fun _ => rfl) fun g0 hg => ?_
 refine rn tk 7 rfl ?_
 refine wq (ev_buildA (cs := [.s (([] : Str)), .s (([115, 101, 110, 116] : Str)), .s (([108, 97, 116, 101, 114] : Str)), .s (([102, 97, 105, 108, 101, 100] : Str))]) ty__4_string ty_string (.inr ⟨rfl, rfl⟩) (by kernel_rfl)) rfl rfl rfl ?_
 refine rn tk 4 rfl ?_
 cases hr
 exact kr tk (.inr rfl) rfl rfl
theorem notice_body_run (a0 : List TTold) (r : Str) (hr : notice_body a0 = some r) : Run Tryz.prog 22 [.l TTold.pc a0] (.s r) := by
 unfold notice_body at hr
 refine rf (fn := Tryz.f22) ⟨Tryz.func22, rfl, by kernel_rfl⟩ rfl (fun _ => rfl) fun g0 hg => ?_
 refine rn tk 14 rfl ?_
 refine wn tk rfl rfl rfl ?_
 refine rn tk 4 rfl ?_
 refine al1 hr (fun s1 => [(3, .s s1.1), (6, .l TTold.pc a0), (7, .i ((a0.length : Int))), (8, .i s1.2)]) (fun s1 => []) (.exit 0) (fun b2 => [(3, .s b2)]) (fun b2 => []) rfl rfl (fun s1 x3 hr => ?_) (fun b2 hr => ?_)
 ·
  unfold notice_body_l1 at hr
  refine rn tk 6 rfl ?_
  refine ac 9 hr rfl (fun c4 hr => ?_) (fun c4 hr => ?_)
  ·
   refine rn tk 6 rfl ?_
   obtain ⟨v5, h6, hr⟩ := bind_some hr
   refine wi tk h6 rfl rfl rfl rfl rfl ?_
   refine rn tk 5 rfl ?_
   obtain ⟨v7, h8, hr⟩ := bind_some hr
   obtain ⟨v9, h10, hr⟩ := bind_some hr
   obtain ⟨v11, h12, hr⟩ := bind_some hr
   obtain ⟨v13, h14, hr⟩ := bind_some hr
   obtain ⟨v15, h16, hr⟩ := bind_some hr
   refine dr 10 [(21, .s v15), (20, .s v13), (19, .s v5.Address), (18, .ptr 5 0), (17, .s v11), (16, .s v9), (15, .i v5.Result), (14, .ptr 5 1), (13, .agg [.s v7.1, .s v7.2.1, .s v7.2.2.1, .s v7.2.2.2]), (12, .s s1.1)] mixed (by kernel_rfl) rfl rfl (pq tk rfl (.plain rfl) (.run (.plain rfl) (opG_call (notice_results_run  v7 h8) rfl) (pq tk rfl (.plain rfl) (pq tk rfl (.plain rfl) (.run (.plain rfl) (opG_q (ev_aidx (f := cS) (L := ([v7.1, v7.2.1, v7.2.2.1, v7.2.2.2] : List Str)) rfl rfl ty__4_string ty_string rfl rfl (fun _ => rfl) h10 rfl)) (.run (.plain rfl) (opG_q (ev_cat rfl rfl h12)) (pq tk rfl (.plain rfl) (pq tk rfl (.plain rfl) (.run (.plain rfl) (opG_q (ev_cat rfl rfl h14)) (.run (.plain rfl) (opG_q (ev_cat rfl rfl h16)) .nil)))))))))) rfl ?_
   obtain ⟨v17, h18, hr⟩ := bind_some hr
   refine wc h18 rfl rfl rfl ?_
   refine rn tk 8 rfl ?_
   cases hr
   exact atc rfl rfl
  ·
   refine rn tk 2 rfl ?_
   cases hr
   exact ato rfl rfl rfl rfl
 ·
  refine rn tk 9 rfl ?_
  cases hr
  exact kr tk (.inr rfl) rfl rfl
theorem notice_id_run (a0 : Str) (a1 : Int) (r : Str) (hr : notice_id a0 a1 = some r) : Run Tryz.prog 15 [.s a0, .i a1] (.s r) := by
 unfold notice_id at hr
 refine rf (fn := Tryz.f15) ⟨Tryz.func15, rfl, by kernel_rfl⟩ rfl (fun _ => rfl) fun g0 hg => ?_
 refine rn tk 8 rfl ?_
 obtain ⟨v1, h2, hr⟩ := bind_some hr
 refine wc h2 rfl rfl rfl ?_
 refine rn tk 1 rfl ?_
 obtain ⟨v3, h4, hr⟩ := bind_some hr
 refine cl (strconv_Itoa_run _ _ h4) rfl rfl ?_
 obtain ⟨v5, h6, hr⟩ := bind_some hr
 refine wc h6 rfl rfl rfl ?_
 refine rn tk 4 rfl ?_
 cases hr
 exact kr tk (.inr rfl) rfl rfl
theorem notice_known_run (a0 : Int) (r : Bool) (hr : notice_known a0 = some r) : Run Tryz.prog 14 [.i a0] (.bo r) := by
 unfold notice_known at hr
 refine rf (fn := Tryz.f14) ⟨Tryz.func14, rfl, by kernel_rfl⟩ rfl (fun _ => rfl) fun g0 hg => ?_
 refine rn tk 5 rfl ?_
 refine jb hr (fun j1 => [(2, .bo j1)]) (fun j1 => []) (fun j1 hr => ?_) (fun j1 hr => ?_)
 ·
  refine rn tk 4 rfl ?_
  refine bs 5 hr rfl (fun c2 hr => ?_) (fun c2 hr => ?_)
  ·
   refine rn tk 1 rfl ?_
   obtain ⟨v3, h4, hr⟩ := bind_some hr
   refine ug rfl rfl rfl ?_
   refine cl (notice_kinds_run _ h4) rfl rfl ?_
   refine rn tk 4 rfl ?_
   refine bs 11 hr rfl (fun c5 hr => ?_) (fun c5 hr => ?_)
   ·
    obtain ⟨v6, h7, hr⟩ := bind_some hr
    refine ug rfl rfl rfl ?_
    refine cl (notice_kinds_run _ h7) rfl rfl ?_
    refine rn tk 1 rfl ?_
    obtain ⟨v8, h9, hr⟩ := bind_some hr
    refine ug rfl rfl rfl ?_
    refine wq (ev_aidx (f := cS) (L := ([v6.1, v6.2.1, v6.2.2.1, v6.2.2.2.1, v6.2.2.2.2] : List Str)) rfl rfl ty__5_string ty_string rfl rfl (fun _ => rfl) h9 rfl) rfl rfl rfl ?_
    refine rn tk 4 rfl ?_
    cases hr
    exact jn _ rfl rfl rfl
   ·
    refine rn tk 7 rfl ?_
    cases hr
    exact jn _ rfl rfl rfl
  ·
   refine rn tk 13 rfl ?_
   cases hr
   exact jn _ rfl rfl rfl
 ·
  refine rn tk 1 rfl ?_
  cases hr
  exact kr tk (.inr rfl) rfl rfl
theorem notice_told_run (a0 : List TTold) (r : TFault) (hr : notice_told a0 = some r) : Run Tryz.prog 16 [.l TTold.pc a0] (.agg [.i r.Code, .i r.Index]) := by
 unfold notice_told at hr
 refine rf (fn := Tryz.f16) ⟨Tryz.func16, rfl, by kernel_rfl⟩ rfl (fun _ => rfl) fun g0 hg => ?_
 refine rn tk 6 rfl ?_
 refine jb hr (fun j1 => [(0, .l TTold.pc a0), (2, .ptr 2 0), (13, .bo j1)]) (fun j1 => [(2, .cells [.i 0, .i 0])]) (fun j1 hr => ?_) (fun j1 hr => ?_)
 ·
  refine rn tk 2 rfl ?_
  refine wn tk rfl rfl rfl ?_
  refine rn tk 2 rfl ?_
  refine bs 9 hr rfl (fun c2 hr => ?_) (fun c2 hr => ?_)
  ·
   refine rn tk 5 rfl ?_
   cases hr
   exact jn _ rfl rfl rfl
  ·
   refine rn tk 1 rfl ?_
   refine ug rfl rfl rfl ?_
   refine wn tk rfl rfl rfl ?_
   refine rn tk 3 rfl ?_
   cases hr
   exact jn _ rfl rfl rfl
 ·
  refine ac 13 hr rfl (fun c3 hr => ?_) (fun c3 hr => ?_)
  ·
   refine rn tk 2 rfl ?_
   obtain ⟨v4, h5, hr⟩ := bind_some hr
   refine cl (basic_Fault_run _ _ _ h5) rfl rfl ?_
   refine rn tk 5 rfl ?_
   cases hr
   exact kr tk (.inr rfl) rfl rfl
  ·
   refine rn tk 11 rfl ?_
   refine wn tk rfl rfl rfl ?_
   refine rn tk 4 rfl ?_
   refine al2 hr (fun s6 => [(2, .ptr 2 0), (3, .fn (.func 37) [] []), (15, .l TTold.pc a0), (16, .i ((a0.length : Int))), (17, .i s6)]) (fun s6 => [(2, .cells [.i 0, .i 0])]) (.exit 0) (fun b7 => [(2, .ptr 2 0)]) (fun b7 => [(2, .cells [.i 0, .i 0])]) .ret (fun b8 => [(2, .ptr 2 0)]) (fun b8 => [(2, .cells [.i b8.Code, .i b8.Index])]) rfl rfl (fun s6 x10 hr => ?_) (fun b7 hr => ?_) (fun b8 hr => ?_)
   ·
    unfold notice_told_l1 at hr
    refine rn tk 6 rfl ?_
    refine ac 18 hr rfl (fun c11 hr => ?_) (fun c11 hr => ?_)
    ·
     refine rn tk 7 rfl ?_
     obtain ⟨v12, h13, hr⟩ := bind_some hr
     refine wi tk h13 rfl rfl rfl rfl rfl ?_
     refine rn tk 11 rfl ?_
     obtain ⟨v14, h15, hr⟩ := bind_some hr
     refine cl (envelope_Address_run _ _ h15) rfl rfl ?_
     refine rn tk 3 rfl ?_
     refine ac 25 hr rfl (fun c16 hr => ?_) (fun c16 hr => ?_)
     ·
      refine rn tk 3 rfl ?_
      obtain ⟨v17, h18, hr⟩ := bind_some hr
      refine cl (basic_Fault_run _ _ _ h18) rfl rfl ?_
      refine rn tk 7 rfl ?_
      cases hr
      exact ato rfl rfl rfl rfl
     ·
      refine rn tk 7 rfl ?_
      refine il (fn := Tryz.f37) (args := [.i v12.Result]) 200000 299999 [(2, .ptr 2 0), (3, .fn (.func 37) [] []), (4, .i s6), (15, .l TTold.pc a0), (16, .i ((a0.length : Int))), (17, .i s6)] rfl ⟨Tryz.func37, rfl, by kernel_rfl⟩ rfl rfl rfl fun T2 ds2 => ?_
      refine rn tk 5 rfl ?_
      refine jb hr (fun j19 => [(2, .bo j19)]) (fun j19 => [(299999, .sus g0.w.heap.size ds2), (200002, .hold (.ptr 2 0) (T2.getD 2 undef)), (200003, .hold (.fn (.func 37) [] []) (T2.getD 3 undef)), (200015, .hold (.l TTold.pc a0) (T2.getD 15 undef)), (200016, .hold (.i ((a0.length : Int))) (T2.getD 16 undef)), (200017, .hold (.i s6) (T2.getD 17 undef)), (200004, .hold (.i s6) (T2.getD 4 undef)), (2, .cells [.i 0, .i 0])]) (fun j19 hr => ?_) (fun j19 hr => ?_)
      ·
       refine rn tk 4 rfl ?_
       refine bs 5 hr rfl (fun c20 hr => ?_) (fun c20 hr => ?_)
       ·
        refine rn tk 5 rfl ?_
        cases hr
        exact jn _ rfl rfl rfl
       ·
        refine rn tk 5 rfl ?_
        cases hr
        exact jn _ rfl rfl rfl
      ·
       refine rn tk 1 rfl ?_
       refine ie tk [.bo j19] [(2, .ptr 2 0), (3, .fn (.func 37) [] []), (4, .i s6), (15, .l TTold.pc a0), (16, .i ((a0.length : Int))), (17, .i s6)] [(2, .cells [.i 0, .i 0])] (.inr rfl) rfl rfl rfl rfl (hO ?_)
       refine rn tk 3 rfl ?_
       refine ac 32 hr rfl (fun c21 hr => ?_) (fun c21 hr => ?_)
       ·
        refine rn tk 3 rfl ?_
        obtain ⟨v22, h23, hr⟩ := bind_some hr
        refine cl (basic_Fault_run _ _ _ h23) rfl rfl ?_
        refine rn tk 6 rfl ?_
        cases hr
        exact ato rfl rfl rfl rfl
       ·
        refine rn tk 7 rfl ?_
        cases hr
        exact atc rfl rfl
    ·
     refine rn tk 2 rfl ?_
     cases hr
     exact ato rfl rfl rfl rfl
   ·
    refine rn tk 4 rfl ?_
    obtain ⟨v24, h25, hr⟩ := bind_some hr
    refine cl (basic_None_run _ h25) rfl rfl ?_
    refine rn tk 4 rfl ?_
    cases hr
    exact kr tk (.inr rfl) rfl rfl
   ·
    refine rn tk 2 rfl ?_
    cases hr
    exact kr tk (.inr rfl) rfl rfl
theorem notice_Make_run (a0 : TMail) (a1 : Int) (a2 : List TTold) (a3 : Int) (r : TMail × TFault) (hr : notice_Make a0 a1 a2 a3 = some r) : Run Tryz.prog 4 [.agg [.s a0.Envelope.From, .l TRecipient.pc a0.Envelope.To, .s a0.Envelope.Id, .l TField.pc a0.Message.Fields, .l cU a0.Message.Body], .i a1, .l TTold.pc a2, .i a3] (.tup [.agg [.s r.1.Envelope.From, .l TRecipient.pc r.1.Envelope.To, .s r.1.Envelope.Id, .l TField.pc r.1.Message.Fields, .l cU r.1.Message.Body], .agg [.i r.2.Code, .i r.2.Index]]) := by
 unfold notice_Make at hr
 refine rf (fn := Tryz.f4) ⟨Tryz.func4, rfl, by kernel_rfl⟩ rfl (fun _ => rfl) fun g0 hg => ?_
 refine rn tk 18 rfl ?_
 obtain ⟨v1, h2, hr⟩ := bind_some hr
 refine cl (envelope_Check_run _ _ h2) rfl rfl ?_
 refine rn tk 9 rfl ?_
 obtain ⟨v3, h4, hr⟩ := bind_some hr
 refine cl (basic_Failed_run _ _ h4) rfl rfl ?_
 refine rn tk 3 rfl ?_
 refine ac 25 hr rfl (fun c5 hr => ?_) (fun c5 hr => ?_)
 ·
  refine rn tk 1 rfl ?_
  refine drX 2 3 3 3 [1] [(29, .agg [.i v1.Code, .i v1.Index]), (28, .agg [.s (([] : Str)), .pv (.sl (some true) []), .s (([] : Str)), .pv (.sl (some true) []), .pv (.sl (some true) [])])] [(8, .ptr 8 0), (9, .ptr 9 0), (29, .agg [.i v1.Code, .i v1.Index])] [(11, .cells [.i v1.Code, .i v1.Index]), (10, .cells [.s a0.Envelope.From, .l TRecipient.pc a0.Envelope.To, .s a0.Envelope.Id]), (9, .cells [.i 0, .i 0]), (8, .cells [.s (([] : Str)), .pv (.sl (some true) []), .s (([] : Str)), .pv (.sl (some true) []), .pv (.sl (some true) [])]), (4, .cells [.s a0.Envelope.From, .l TRecipient.pc a0.Envelope.To, .s a0.Envelope.Id, .l TField.pc a0.Message.Fields, .l cU a0.Message.Body])] tk mixed (by kernel_rfl) rfl rfl rfl (pqX tk rfl (.plain rfl) (pqX tk rfl (.plain rfl) .nil)) rfl rfl rfl rfl (by kernel_rfl) ?_
  refine rn tk 6 rfl ?_
  cases hr
  exact kr tk (.inr rfl) rfl rfl
 ·
  refine rn tk 8 rfl ?_
  refine ac 30 hr rfl (fun c6 hr => ?_) (fun c6 hr => ?_)
  ·
   refine rn tk 3 rfl ?_
   obtain ⟨v7, h8, hr⟩ := bind_some hr
   refine cl (basic_Fault_run _ _ _ h8) rfl rfl ?_
   refine rn tk 7 rfl ?_
   cases hr
   exact kr tk (.inr rfl) rfl rfl
  ·
   refine rn tk 3 rfl ?_
   obtain ⟨v9, h10, hr⟩ := bind_some hr
   refine cl (notice_known_run _ _ h10) rfl rfl ?_
   refine rn tk 4 rfl ?_
   refine ac 36 hr rfl (fun c11 hr => ?_) (fun c11 hr => ?_)
   ·
    refine rn tk 3 rfl ?_
    obtain ⟨v12, h13, hr⟩ := bind_some hr
    refine cl (basic_Fault_run _ _ _ h13) rfl rfl ?_
    refine rn tk 7 rfl ?_
    cases hr
    exact kr tk (.inr rfl) rfl rfl
   ·
    refine rn tk 5 rfl ?_
    obtain ⟨v14, h15, hr⟩ := bind_some hr
    refine cl (notice_id_run _ _ _ h15) rfl rfl ?_
    refine rn tk 5 rfl ?_
    refine ac 42 hr rfl (fun c16 hr => ?_) (fun c16 hr => ?_)
    ·
     refine rn tk 3 rfl ?_
     obtain ⟨v17, h18, hr⟩ := bind_some hr
     refine cl (basic_Fault_run _ _ _ h18) rfl rfl ?_
     refine rn tk 7 rfl ?_
     cases hr
     exact kr tk (.inr rfl) rfl rfl
    ·
     refine rn tk 7 rfl ?_
     obtain ⟨v19, h20, hr⟩ := bind_some hr
     refine cl (notice_told_run _ _ h20) rfl rfl ?_
     refine rn tk 7 rfl ?_
     obtain ⟨v21, h22, hr⟩ := bind_some hr
     refine cl (basic_Failed_run _ _ h22) rfl rfl ?_
     refine rn tk 2 rfl ?_
     refine ac 54 hr rfl (fun c23 hr => ?_) (fun c23 hr => ?_)
     ·
      refine rn tk 1 rfl ?_
      refine drX 2 3 3 3 [1] [(56, .agg [.i v19.Code, .i v19.Index]), (55, .agg [.s (([] : Str)), .pv (.sl (some true) []), .s (([] : Str)), .pv (.sl (some true) []), .pv (.sl (some true) [])])] [(8, .ptr 8 0), (9, .ptr 9 0), (56, .agg [.i v19.Code, .i v19.Index])] [(12, .cells [.i v19.Code, .i v19.Index]), (11, .cells [.i v1.Code, .i v1.Index]), (10, .cells [.s a0.Envelope.From, .l TRecipient.pc a0.Envelope.To, .s a0.Envelope.Id]), (9, .cells [.i 0, .i 0]), (8, .cells [.s (([] : Str)), .pv (.sl (some true) []), .s (([] : Str)), .pv (.sl (some true) []), .pv (.sl (some true) [])]), (4, .cells [.s a0.Envelope.From, .l TRecipient.pc a0.Envelope.To, .s a0.Envelope.Id, .l TField.pc a0.Message.Fields, .l cU a0.Message.Body])] tk mixed (by kernel_rfl) rfl rfl rfl (pqX tk rfl (.plain rfl) (pqX tk rfl (.plain rfl) .nil)) rfl rfl rfl rfl (by kernel_rfl) ?_
      refine rn tk 5 rfl ?_
      cases hr
      exact kr tk (.inr rfl) rfl rfl
     ·
      refine rn tk 5 rfl ?_
      obtain ⟨v24, h25, hr⟩ := bind_some hr
      refine cl (dates_Civil_run _ _ _ h25) rfl rfl ?_
      refine rn tk 12 rfl ?_
      obtain ⟨v26, h27, hr⟩ := bind_some hr
      refine cl (basic_Failed_run _ _ h27) rfl rfl ?_
      refine rn tk 2 rfl ?_
      refine ac 63 hr rfl (fun c28 hr => ?_) (fun c28 hr => ?_)
      ·
       refine rn tk 5 rfl ?_
       obtain ⟨v29, h30, hr⟩ := bind_some hr
       refine cl (basic_Fault_run _ _ _ h30) rfl rfl ?_
       refine rn tk 6 rfl ?_
       cases hr
       exact kr tk (.inr rfl) rfl rfl
      ·
       refine rn tk 5 rfl ?_
       obtain ⟨v31, h32, hr⟩ := bind_some hr
       refine cl (dates_Print_run _ _ h32) rfl rfl ?_
       refine rn tk 12 rfl ?_
       obtain ⟨v33, h34, hr⟩ := bind_some hr
       refine cl (envelope_Split_run _ _ h34) rfl rfl ?_
       refine rn tk 10 rfl ?_
       obtain ⟨v35, h36, hr⟩ := bind_some hr
       obtain ⟨v37, h38, hr⟩ := bind_some hr
       obtain ⟨v39, h40, hr⟩ := bind_some hr
       obtain ⟨v41, h42, hr⟩ := bind_some hr
       obtain ⟨v43, h44, hr⟩ := bind_some hr
       refine dr 18 [(97, .agg [.s (([88, 45, 78, 111, 116, 105, 99, 101] : Str)), .s v43]), (96, .s v43), (95, .i a1), (94, .s a0.Envelope.Id), (93, .ptr 10 2), (92, .agg [.s (([68, 97, 116, 101] : Str)), .s v31.1]), (91, .s v31.1), (90, .agg [.s (([83, 117, 98, 106, 101, 99, 116] : Str)), .s v41]), (89, .s v41), (88, .s v39), (87, .i a1), (86, .agg [.s v37.1, .s v37.2.1, .s v37.2.2.1, .s v37.2.2.2.1, .s v37.2.2.2.2]), (85, .agg [.s (([84, 111] : Str)), .s a0.Envelope.From]), (84, .s a0.Envelope.From), (83, .ptr 10 0), (82, .agg [.s (([70, 114, 111, 109] : Str)), .s v35]), (81, .s v35), (80, .s v33.2.1)] mixed (by kernel_rfl) rfl rfl (pq tk rfl (.plain rfl) (.run (.plain rfl) (opG_q (ev_cat rfl rfl h36)) (pq tk rfl (.plain rfl) (pq tk rfl (.plain rfl) (pq tk rfl (.plain rfl) (pq tk rfl (.plain rfl) (.run (.plain rfl) (opG_call (notice_kinds_run  v37 h38) rfl) (pq tk rfl (.plain rfl) (.run (.plain rfl) (opG_q (ev_aidx (f := cS) (L := ([v37.1, v37.2.1, v37.2.2.1, v37.2.2.2.1, v37.2.2.2.2] : List Str)) rfl rfl ty__5_string ty_string rfl rfl (fun _ => rfl) h40 rfl)) (.run (.plain rfl) (opG_q (ev_cat rfl rfl h42)) (pq tk rfl (.plain rfl) (pq tk rfl (.plain rfl) (pq tk rfl (.plain rfl) (pq tk rfl (.plain rfl) (pq tk rfl (.plain rfl) (pq tk rfl (.plain rfl) (.run (.plain rfl) (opG_call (notice_about_run a0.Envelope.Id a1 v43 h44) rfl) (pq tk rfl (.plain rfl) .nil)))))))))))))))))) rfl ?_
       refine wz TField.pc ([(TField.mk (([70, 114, 111, 109] : Str)) v35), (TField.mk (([84, 111] : Str)) a0.Envelope.From), (TField.mk (([83, 117, 98, 106, 101, 99, 116] : Str)) v41), (TField.mk (([68, 97, 116, 101] : Str)) v31.1), (TField.mk (([88, 45, 78, 111, 116, 105, 99, 101] : Str)) v43)] : List TField) tk rfl rfl (fun _ => rfl) rfl (by kernel_rfl) rfl ?_
       refine rn tk 8 rfl ?_
       refine wz TRecipient.pc ([(TRecipient.mk a0.Envelope.From 0)] : List TRecipient) tk rfl rfl (fun _ => rfl) rfl rfl rfl ?_
       refine rn tk 9 rfl ?_
       obtain ⟨v45, h46, hr⟩ := bind_some hr
       refine cl (notice_id_run _ _ _ h46) rfl rfl ?_
       refine rn tk 3 rfl ?_
       obtain ⟨v47, h48, hr⟩ := bind_some hr
       refine cl (notice_body_run _ _ h48) rfl rfl ?_
       refine wo (opTo_g (d := 112) rfl rfl (opG_s2bytes (k := 0) rfl ty_string ty_s_uint8 ty_uint8)) rfl ?_
       refine rn tk 2 rfl ?_
       obtain ⟨v49, h50, hr⟩ := bind_some hr
       refine cl (basic_None_run _ h50) rfl rfl ?_
       refine rn tk 5 rfl ?_
       cases hr
       exact kr tk (.inr rfl) rfl rfl
theorem basic_Lower_run (a0 : Str) (r : Str) (hr : basic_Lower a0 = some r) : Run Tryz.prog 103 [.s a0] (.s r) := by
 unfold basic_Lower at hr
 refine rf (fn := Tryz.f103) ⟨Tryz.func103, rfl, by kernel_rfl⟩ rfl (fun _ => rfl) fun g0 hg => ?_
 refine rn tk 8 rfl ?_
 refine wo (opTo_s2buf (k := 7) (s := a0) 1007 rfl rfl rfl rfl ty_string ty_s_uint8 ty_uint8) rfl ?_
 refine rn tk 7 rfl ?_
 refine wq (ev_buflen (l := a0) rfl rfl ty_s_uint8.u) rfl rfl rfl ?_
 refine rn tk 4 rfl ?_
 refine al1 hr (fun s1 => [(3, .hs 1007 0), (8, .hs 1007 0), (9, .i ((a0.length : Int))), (10, .i s1.1)]) (fun s1 => [(1007, .buf s1.2)]) (.exit 0) (fun b2 => [(3, .hs 1007 0)]) (fun b2 => [(1007, .buf b2)]) rfl rfl (fun s1 x3 hr => ?_) (fun b2 hr => ?_)
 ·
  unfold basic_Lower_l1 at hr
  refine rn tk 6 rfl ?_
  refine ac 11 hr rfl (fun c4 hr => ?_) (fun c4 hr => ?_)
  ·
   refine rn tk 2 rfl ?_
   refine jb hr (fun j5 => [(3, .hs 1007 0), (8, .hs 1007 0), (9, .i ((a0.length : Int))), (10, .i s1.1)]) (fun j5 => [(1007, .buf j5)]) (fun j5 hr => ?_) (fun j5 hr => ?_)
   ·
    refine rn tk 4 rfl ?_
    obtain ⟨v6, h7, hr⟩ := bind_some hr
    refine wq (ev_bufidx (l := s1.2) (n := s1.1) rfl rfl rfl ty_s_uint8 ty_uint8 h7) rfl rfl rfl ?_
    obtain ⟨v8, h9, hr⟩ := bind_some hr
    refine wq (ev_bufload (l := s1.2) (n := s1.1) rfl rfl ty_uint8 h9) rfl rfl rfl ?_
    refine rn tk 4 rfl ?_
    refine jb hr (fun j10 => [(3, .hs 1007 0), (4, .i s1.1), (5, .u8 v8), (8, .hs 1007 0), (9, .i ((a0.length : Int))), (10, .i s1.1), (20, .bo j10)]) (fun j10 => [(1007, .buf s1.2)]) (fun j10 hr => ?_) (fun j10 hr => ?_)
    ·
     refine rn tk 4 rfl ?_
     refine bs 17 hr rfl (fun c11 hr => ?_) (fun c11 hr => ?_)
     ·
      refine rn tk 4 rfl ?_
      cases hr
      exact jn _ rfl rfl rfl
     ·
      refine rn tk 4 rfl ?_
      cases hr
      exact jn _ rfl rfl rfl
    ·
     refine ac 20 hr rfl (fun c12 hr => ?_) (fun c12 hr => ?_)
     ·
      refine rn tk 4 rfl ?_
      refine wq (ev_u8add (a := v8) (b := (97 : UInt8)) rfl rfl) rfl rfl rfl ?_
      refine wq (ev_u8sub (a := ((v8 + (97 : UInt8)))) (b := (65 : UInt8)) rfl rfl) rfl rfl rfl ?_
      obtain ⟨v13, h14, hr⟩ := bind_some hr
      refine wq (ev_bufidx (l := s1.2) (n := s1.1) rfl rfl rfl ty_s_uint8 ty_uint8 h14) rfl rfl rfl ?_
      obtain ⟨v15, h16, hr⟩ := bind_some hr
      refine wo (opTo_bufstore (l := s1.2) (n := s1.1) (v := v15) (v' := (((v8 + (97 : UInt8)) - (65 : UInt8)))) rfl rfl rfl ty_uint8 h16) rfl ?_
      refine rn tk 2 rfl ?_
      cases hr
      exact jn _ rfl rfl rfl
     ·
      refine rn tk 2 rfl ?_
      cases hr
      exact jn _ rfl rfl rfl
   ·
    refine rn tk 4 rfl ?_
    cases hr
    exact atc rfl rfl
  ·
   refine rn tk 2 rfl ?_
   cases hr
   exact ato rfl rfl rfl rfl
 ·
  refine rn tk 5 rfl ?_
  refine wq (ev_buf2s (l := b2) rfl rfl ty_s_uint8 ty_uint8 ty_string) rfl rfl rfl ?_
  refine rn tk 4 rfl ?_
  cases hr
  exact kr tk (.inr rfl) rfl rfl
theorem basic_Same_run (a0 : Str) (a1 : Str) (r : Bool) (hr : basic_Same a0 a1 = some r) : Run Tryz.prog 68 [.s a0, .s a1] (.bo r) := by
 unfold basic_Same at hr
 refine rf (fn := Tryz.f68) ⟨Tryz.func68, rfl, by kernel_rfl⟩ rfl (fun _ => rfl) fun g0 hg => ?_
 refine rn tk 5 rfl ?_
 refine jb hr (fun j1 => [(4, .bo j1)]) (fun j1 => []) (fun j1 hr => ?_) (fun j1 hr => ?_)
 ·
  refine rn tk 7 rfl ?_
  refine bs 10 hr rfl (fun c2 hr => ?_) (fun c2 hr => ?_)
  ·
   refine rn tk 1 rfl ?_
   obtain ⟨v3, h4, hr⟩ := bind_some hr
   refine ug rfl rfl rfl ?_
   refine cl (basic_Lower_run _ _ h4) rfl rfl ?_
   refine rn tk 1 rfl ?_
   obtain ⟨v5, h6, hr⟩ := bind_some hr
   refine ug rfl rfl rfl ?_
   refine cl (basic_Lower_run _ _ h6) rfl rfl ?_
   refine rn tk 4 rfl ?_
   cases hr
   exact jn _ rfl rfl rfl
  ·
   refine rn tk 8 rfl ?_
   cases hr
   exact jn _ rfl rfl rfl
 ·
  refine rn tk 1 rfl ?_
  cases hr
  exact kr tk (.inr rfl) rfl rfl
theorem header_name_run (a0 : Str) (r : Bool) (hr : header_name a0 = some r) : Run Tryz.prog 92 [.s a0] (.bo r) := by
 unfold header_name at hr
 refine rf (fn := Tryz.f92) ⟨Tryz.func92, rfl, by kernel_rfl⟩ rfl (fun _ => rfl) fun g0 hg => ?_
 refine rn tk 8 rfl ?_
 obtain ⟨v1, h2, hr⟩ := bind_some hr
 refine cl (fold_Fold_run _ _ _ h2) rfl rfl ?_
 refine rn tk 11 rfl ?_
 obtain ⟨v3, h4, hr⟩ := bind_some hr
 refine cl (basic_Failed_run _ _ h4) rfl rfl ?_
 refine rn tk 5 rfl ?_
 cases hr
 exact kr tk (.inr rfl) rfl rfl
theorem header_valid_run (a0 : List TField) (a1 : Str) (r : TFault) (hr : header_valid a0 a1 = some r) : Run Tryz.prog 67 [.l TField.pc a0, .s a1] (.agg [.i r.Code, .i r.Index]) := by
 unfold header_valid at hr
 refine rf (fn := Tryz.f67) ⟨Tryz.func67, rfl, by kernel_rfl⟩ rfl (fun _ => rfl) fun g0 hg => ?_
 refine rn tk 9 rfl ?_
 obtain ⟨v1, h2, hr⟩ := bind_some hr
 refine cl (header_Validate_run _ _ h2) rfl rfl ?_
 refine rn tk 7 rfl ?_
 obtain ⟨v3, h4, hr⟩ := bind_some hr
 refine cl (basic_Failed_run _ _ h4) rfl rfl ?_
 refine rn tk 2 rfl ?_
 refine ac 9 hr rfl (fun c5 hr => ?_) (fun c5 hr => ?_)
 ·
  refine rn tk 8 rfl ?_
  cases hr
  exact kr tk (.inr rfl) rfl rfl
 ·
  refine rn tk 6 rfl ?_
  obtain ⟨v6, h7, hr⟩ := bind_some hr
  refine cl (header_name_run _ _ h7) rfl rfl ?_
  refine rn tk 3 rfl ?_
  refine ac 13 hr rfl (fun c8 hr => ?_) (fun c8 hr => ?_)
  ·
   refine rn tk 2 rfl ?_
   obtain ⟨v9, h10, hr⟩ := bind_some hr
   refine cl (basic_Fault_run _ _ _ h10) rfl rfl ?_
   refine rn tk 5 rfl ?_
   cases hr
   exact kr tk (.inr rfl) rfl rfl
  ·
   refine rn tk 4 rfl ?_
   obtain ⟨v11, h12, hr⟩ := bind_some hr
   refine cl (basic_None_run _ h12) rfl rfl ?_
   refine rn tk 4 rfl ?_
   cases hr
   exact kr tk (.inr rfl) rfl rfl
theorem header_Get_run (a0 : List TField) (a1 : Str) (r : (List Str) × TFault) (hr : header_Get a0 a1 = some r) : Run Tryz.prog 31 [.l TField.pc a0, .s a1] (.tup [.l cS r.1, .agg [.i r.2.Code, .i r.2.Index]]) := by
 unfold header_Get at hr
 refine rf (fn := Tryz.f31) ⟨Tryz.func31, rfl, by kernel_rfl⟩ rfl (fun _ => rfl) fun g0 hg => ?_
 refine rn tk 11 rfl ?_
 obtain ⟨v1, h2, hr⟩ := bind_some hr
 refine cl (header_valid_run _ _ _ h2) rfl rfl ?_
 refine rn tk 7 rfl ?_
 obtain ⟨v3, h4, hr⟩ := bind_some hr
 refine cl (basic_Failed_run _ _ h4) rfl rfl ?_
 refine rn tk 2 rfl ?_
 refine ac 14 hr rfl (fun c5 hr => ?_) (fun c5 hr => ?_)
 ·
  refine rn tk 1 rfl ?_
  refine dr 2 [(4, .pv (.sl (some true) [])), (15, .agg [.i v1.Code, .i v1.Index])] mixed (by kernel_rfl) rfl rfl (pq tk rfl (.plain rfl) (pq tk rfl (.plain rfl) .nil)) rfl ?_
  refine rn tk 5 rfl ?_
  cases hr
  exact kr tk (.inr rfl) rfl rfl
 ·
  refine rn tk 5 rfl ?_
  refine awpl_adopt 1007 (d := 7) 9 1 rfl rfl rfl (hO ?_)
  refine rn tk 6 rfl ?_
  refine wn tk rfl rfl rfl ?_
  refine rn tk 4 rfl ?_
  refine al1 hr (fun s6 => [(1, .s a1), (5, .ptr 5 0), (7, .hs 1007 0), (16, .l TField.pc a0), (17, .i ((a0.length : Int))), (18, .i s6.1)]) (fun s6 => [(1007, .row 9 false 1 (List.map cS s6.2)), (5, .cells [.i 0, .i 0])]) (.exit 0) (fun b7 => [(5, .ptr 5 0), (7, .hs 1007 0)]) (fun b7 => [(1007, .row 9 false 1 (List.map cS b7)), (5, .cells [.i 0, .i 0])]) rfl rfl (fun s6 x8 hr => ?_) (fun b7 hr => ?_)
  ·
   unfold header_Get_l1 at hr
   refine rn tk 6 rfl ?_
   refine ac 19 hr rfl (fun c9 hr => ?_) (fun c9 hr => ?_)
   ·
    refine rn tk 2 rfl ?_
    refine jb hr (fun j10 => [(1, .s a1), (5, .ptr 5 0), (7, .hs 1007 0), (16, .l TField.pc a0), (17, .i ((a0.length : Int))), (18, .i s6.1)]) (fun j10 => [(1007, .row 9 false 1 (List.map cS j10)), (5, .cells [.i 0, .i 0])]) (fun j10 hr => ?_) (fun j10 hr => ?_)
    ·
     refine rn tk 3 rfl ?_
     obtain ⟨v11, h12, hr⟩ := bind_some hr
     refine wi tk h12 rfl rfl rfl rfl rfl ?_
     refine rn tk 10 rfl ?_
     obtain ⟨v13, h14, hr⟩ := bind_some hr
     refine cl (basic_Same_run _ _ _ h14) rfl rfl ?_
     refine rn tk 2 rfl ?_
     refine ac 25 hr rfl (fun c15 hr => ?_) (fun c15 hr => ?_)
     ·
      refine rn tk 4 rfl ?_
      refine wz cS ([v11.Value] : List Str) tk rfl rfl (fun _ => rfl) rfl rfl rfl ?_
      obtain ⟨v16, h17, hr⟩ := bind_some hr
      refine wa tk h17 rfl rfl rfl rfl (fun _ => rfl) rfl rfl ?_
      refine rn tk 3 rfl ?_
      cases hr
      exact jn _ rfl rfl rfl
     ·
      refine rn tk 2 rfl ?_
      cases hr
      exact jn _ rfl rfl rfl
    ·
     refine rn tk 4 rfl ?_
     cases hr
     exact atc rfl rfl
   ·
    refine rn tk 2 rfl ?_
    cases hr
    exact ato rfl rfl rfl rfl
  ·
   refine rn tk 5 rfl ?_
   obtain ⟨v18, h19, hr⟩ := bind_some hr
   refine cl (basic_None_run _ h19) rfl rfl ?_
   refine rn tk 4 rfl ?_
   refine awp_pub (d := 4) (F := cS) (l := b7) rfl rfl (hC ?_)
   refine rn tk 1 rfl ?_
   cases hr
   exact kr tk (.inr rfl) rfl rfl
theorem slices_Index_string_string_run (a0 : List Str) (a1 : Str) (r : Int) (hr : slices_Index_string_string a0 a1 = some r) : Run Tryz.prog 33 [.l cS a0, .s a1] (.i r) := by
 unfold slices_Index_string_string at hr
 refine rf (fn := Tryz.f33) ⟨Tryz.func33, rfl, by kernel_rfl⟩ rfl (fun _ => rfl) fun g0 hg => ?_
 refine rn tk 9 rfl ?_
 refine wn tk rfl rfl rfl ?_
 refine rn tk 4 rfl ?_
 refine al2 hr (fun s1 => [(0, .l cS a0), (1, .s a1), (7, .i ((a0.length : Int))), (8, .i s1)]) (fun s1 => []) (.exit 0) (fun b2 => []) (fun b2 => []) .ret (fun b3 => [(4, .i b3)]) (fun b3 => []) rfl rfl (fun s1 x5 hr => ?_) (fun b2 hr => ?_) (fun b3 hr => ?_)
 ·
  unfold slices_Index_string_string_l1 at hr
  refine rn tk 6 rfl ?_
  refine ac 9 hr rfl (fun c6 hr => ?_) (fun c6 hr => ?_)
  ·
   refine rn tk 15 rfl ?_
   obtain ⟨v7, h8, hr⟩ := bind_some hr
   refine wi tk h8 rfl rfl rfl rfl rfl ?_
   refine rn tk 4 rfl ?_
   refine ac 16 hr rfl (fun c9 hr => ?_) (fun c9 hr => ?_)
   ·
    refine rn tk 9 rfl ?_
    cases hr
    exact ato rfl rfl rfl rfl
   ·
    refine rn tk 7 rfl ?_
    cases hr
    exact atc rfl rfl
  ·
   refine rn tk 2 rfl ?_
   cases hr
   exact ato rfl rfl rfl rfl
 ·
  refine rn tk 8 rfl ?_
  cases hr
  exact kr tk (.inr rfl) rfl rfl
 ·
  refine rn tk 2 rfl ?_
  cases hr
  exact kr tk (.inr rfl) rfl rfl
theorem notice_list_run (a0 : Str) (r : (List TTold) × Bool) (hr : notice_list a0 = some r) : Run Tryz.prog 34 [.s a0] (.tup [.l TTold.pc r.1, .bo r.2]) := by
 unfold notice_list at hr
 refine rf (fn := Tryz.f34) ⟨Tryz.func34, rfl, by kernel_rfl⟩ rfl (fun _ => rfl) fun g0 hg => ?_
 refine rn tk 8 rfl ?_
 obtain ⟨v1, h2, hr⟩ := bind_some hr
 refine cl (notice_results_run _ h2) rfl rfl ?_
 refine rn tk 7 rfl ?_
 refine awpl_adopt 1005 (d := 5) 72 2 rfl rfl rfl (hO ?_)
 refine rn tk 4 rfl ?_
 refine awp_pubbox 4 (cs := [pS v1.1, pS v1.2.1, pS v1.2.2.1, pS v1.2.2.2]) rfl rfl (hC ?_)
 refine al2 hr (fun s4 => [(0, .s s4.1), (4, .ep [pS v1.1, pS v1.2.1, pS v1.2.2.1, pS v1.2.2.2]), (5, .hs 1005 0)]) (fun s4 => [(1005, .row 72 false 2 (List.map TTold.pc s4.2))]) (.exit 0) (fun b5 => [(5, .hs 1005 0)]) (fun b5 => [(1005, .row 72 false 2 (List.map TTold.pc b5))]) .ret (fun b6 => [(2, .l TTold.pc b6.1), (3, .bo b6.2)]) (fun b6 => []) rfl rfl (fun s4 x8 hr => ?_) (fun b5 hr => ?_) (fun b6 hr => ?_)
 ·
  unfold notice_list_l1 at hr
  refine rn tk 7 rfl ?_
  refine ac 15 hr rfl (fun c9 hr => ?_) (fun c9 hr => ?_)
  ·
   refine rn tk 6 rfl ?_
   obtain ⟨v10, h11, hr⟩ := bind_some hr
   refine cl (strings_Cut_run _ _ _ h11) rfl rfl ?_
   refine rn tk 12 rfl ?_
   obtain ⟨v12, h13, hr⟩ := bind_some hr
   refine cl (strings_Cut_run _ _ _ h13) rfl rfl ?_
   refine rn tk 11 rfl ?_
   refine wq (ev_sliceArr (F := cS) (l := ([v1.1, v1.2.1, v1.2.2.1, v1.2.2.2] : List Str)) rfl rfl (fun _ => rfl) rfl ty__4_string ty_string) rfl rfl rfl ?_
   refine rn tk 1 rfl ?_
   obtain ⟨v14, h15, hr⟩ := bind_some hr
   refine cl (slices_Index_string_string_run _ _ _ h15) rfl rfl ?_
   refine rn tk 4 rfl ?_
   refine jb hr (fun j16 => [(4, .ep [pS v1.1, pS v1.2.1, pS v1.2.2.1, pS v1.2.2.2]), (5, .hs 1005 0), (7, .s v10.2.1), (10, .s v12.2.1), (12, .i v14), (45, .bo j16)]) (fun j16 => [(1005, .row 72 false 2 (List.map TTold.pc s4.2))]) (fun j16 hr => ?_) (fun j16 hr => ?_)
   ·
    refine rn tk 4 rfl ?_
    refine bs 33 hr rfl (fun c17 hr => ?_) (fun c17 hr => ?_)
    ·
     refine rn tk 13 rfl ?_
     cases hr
     exact jn _ rfl rfl rfl
    ·
     refine rn tk 4 rfl ?_
     refine bs 37 hr rfl (fun c18 hr => ?_) (fun c18 hr => ?_)
     ·
      refine rn tk 9 rfl ?_
      cases hr
      exact jn _ rfl rfl rfl
     ·
      refine rn tk 4 rfl ?_
      refine bs 41 hr rfl (fun c19 hr => ?_) (fun c19 hr => ?_)
      ·
       refine rn tk 5 rfl ?_
       cases hr
       exact jn _ rfl rfl rfl
      ·
       refine rn tk 1 rfl ?_
       refine ug rfl rfl rfl ?_
       refine wnh tk rfl rfl rfl rfl ?_
       refine rn tk 3 rfl ?_
       cases hr
       exact jn _ rfl rfl rfl
   ·
    refine ac 45 hr rfl (fun c20 hr => ?_) (fun c20 hr => ?_)
    ·
     refine rn tk 9 rfl ?_
     cases hr
     exact ato rfl rfl rfl rfl
    ·
     refine rn tk 8 rfl ?_
     refine wz TTold.pc ([(TTold.mk v12.2.1 v14)] : List TTold) tk rfl rfl (fun _ => rfl) rfl rfl rfl ?_
     obtain ⟨v21, h22, hr⟩ := bind_some hr
     refine wa tk h22 rfl rfl rfl rfl (fun _ => rfl) rfl rfl ?_
     refine rn tk 8 rfl ?_
     cases hr
     exact atc rfl rfl
  ·
   refine rn tk 2 rfl ?_
   cases hr
   exact ato rfl rfl rfl rfl
 ·
  refine rn tk 6 rfl ?_
  refine awpl_pub (d := 54) (F := TTold.pc) (l := b5) rfl rfl (hO ?_)
  obtain ⟨v23, h24, hr⟩ := bind_some hr
  refine cl (notice_told_run _ _ h24) rfl rfl ?_
  obtain ⟨v25, h26, hr⟩ := bind_some hr
  refine cl (basic_Failed_run _ _ h26) rfl rfl ?_
  refine rn tk 5 rfl ?_
  refine awp_pub (d := 2) (F := TTold.pc) (l := b5) rfl rfl (hC ?_)
  refine rn tk 1 rfl ?_
  cases hr
  exact kr tk (.inr rfl) rfl rfl
 ·
  refine rn tk 2 rfl ?_
  cases hr
  exact kr tk (.inr rfl) rfl rfl
theorem notice_Read_run (a0 : TMessage) (r : TNotice × Bool × TFault) (hr : notice_Read a0 = some r) : Run Tryz.prog 9 [.agg [.l TField.pc a0.Fields, .l cU a0.Body]] (.tup [.agg [.i r.1.Kind, .s r.1.Id, .l TTold.pc r.1.Told], .bo r.2.1, .agg [.i r.2.2.Code, .i r.2.2.Index]]) := by
 unfold notice_Read at hr
 refine rf (fn := Tryz.f9) ⟨Tryz.func9, rfl, by kernel_rfl⟩ rfl (fun _ => rfl) fun g0 hg => ?_
 refine rn tk 12 rfl ?_
 obtain ⟨v1, h2, hr⟩ := bind_some hr
 refine cl (message_Validate_run _ _ h2) rfl rfl ?_
 refine rn tk 7 rfl ?_
 obtain ⟨v3, h4, hr⟩ := bind_some hr
 refine cl (basic_Failed_run _ _ h4) rfl rfl ?_
 refine rn tk 2 rfl ?_
 refine ac 18 hr rfl (fun c5 hr => ?_) (fun c5 hr => ?_)
 ·
  refine rn tk 1 rfl ?_
  refine drX 2 4 4 4 [1] [(20, .agg [.i v1.Code, .i v1.Index]), (19, .agg [.i 0, .s (([] : Str)), .pv (.sl (some true) [])])] [(2, .ptr 2 0), (3, .bo false), (4, .ptr 4 0), (20, .agg [.i v1.Code, .i v1.Index])] [(5, .cells [.i v1.Code, .i v1.Index]), (4, .cells [.i 0, .i 0]), (2, .cells [.i 0, .s (([] : Str)), .pv (.sl (some true) [])]), (1, .cells [.l TField.pc a0.Fields, .l cU a0.Body])] tk mixed (by kernel_rfl) rfl rfl rfl (pqX tk rfl (.plain rfl) (pqX tk rfl (.plain rfl) .nil)) rfl rfl rfl rfl (by kernel_rfl) ?_
  refine rn tk 5 rfl ?_
  cases hr
  exact kr tk (.inr rfl) rfl rfl
 ·
  refine rn tk 6 rfl ?_
  obtain ⟨v6, h7, hr⟩ := bind_some hr
  refine cl (header_Get_run _ _ _ h7) rfl rfl ?_
  refine rn tk 12 rfl ?_
  refine wn tk rfl rfl rfl ?_
  refine rn tk 3 rfl ?_
  refine ac 29 hr rfl (fun c8 hr => ?_) (fun c8 hr => ?_)
  ·
   refine rn tk 3 rfl ?_
   obtain ⟨v9, h10, hr⟩ := bind_some hr
   refine cl (basic_None_run _ h10) rfl rfl ?_
   refine rn tk 7 rfl ?_
   cases hr
   exact kr tk (.inr rfl) rfl rfl
  ·
   refine rn tk 5 rfl ?_
   obtain ⟨v11, h12, hr⟩ := bind_some hr
   refine wi tk h12 rfl rfl rfl rfl rfl ?_
   refine rn tk 1 rfl ?_
   obtain ⟨v13, h14, hr⟩ := bind_some hr
   refine cl (strings_Cut_run _ _ _ h14) rfl rfl ?_
   refine rn tk 11 rfl ?_
   obtain ⟨v15, h16, hr⟩ := bind_some hr
   refine cl (notice_kinds_run _ h16) rfl rfl ?_
   refine rn tk 6 rfl ?_
   refine awpl_pubbox 11 (cs := [pS v15.1, pS v15.2.1, pS v15.2.2.1, pS v15.2.2.2.1, pS v15.2.2.2.2]) rfl rfl (hO ?_)
   refine wq (ev_sliceArr (F := cS) (l := ([v15.1, v15.2.1, v15.2.2.1, v15.2.2.2.1, v15.2.2.2.2] : List Str)) rfl rfl (fun _ => rfl) rfl ty__5_string ty_string) rfl rfl rfl ?_
   refine rn tk 1 rfl ?_
   obtain ⟨v17, h18, hr⟩ := bind_some hr
   refine cl (slices_Index_string_string_run _ _ _ h18) rfl rfl ?_
   refine rn tk 4 rfl ?_
   refine jb hr (fun j19 => [(1, .ptr 1 0), (2, .ptr 2 0), (4, .ptr 4 0), (9, .s v13.2.1), (12, .i v17), (64, .bo j19)]) (fun j19 => [(4, .cells [.i 0, .i 0]), (2, .cells [.i 0, .s (([] : Str)), .l TTold.pc ([])]), (1, .cells [.l TField.pc a0.Fields, .l cU a0.Body])]) (fun j19 hr => ?_) (fun j19 hr => ?_)
   ·
    refine rn tk 4 rfl ?_
    refine bs 46 hr rfl (fun c20 hr => ?_) (fun c20 hr => ?_)
    ·
     refine rn tk 19 rfl ?_
     cases hr
     exact jn _ rfl rfl rfl
    ·
     refine rn tk 4 rfl ?_
     refine bs 50 hr rfl (fun c21 hr => ?_) (fun c21 hr => ?_)
     ·
      refine rn tk 15 rfl ?_
      cases hr
      exact jn _ rfl rfl rfl
     ·
      refine rn tk 2 rfl ?_
      refine bs 52 hr rfl (fun c22 hr => ?_) (fun c22 hr => ?_)
      ·
       refine rn tk 1 rfl ?_
       obtain ⟨v23, h24, hr⟩ := bind_some hr
       refine ug rfl rfl rfl ?_
       refine cl (basic_Name_run _ _ h24) rfl rfl ?_
       refine rn tk 4 rfl ?_
       refine bs 58 hr rfl (fun c25 hr => ?_) (fun c25 hr => ?_)
       ·
        refine rn tk 7 rfl ?_
        cases hr
        exact jn _ rfl rfl rfl
       ·
        refine rn tk 2 rfl ?_
        obtain ⟨v26, h27, hr⟩ := bind_some hr
        refine ug rfl rfl rfl ?_
        refine cl (notice_id_run _ _ _ h27) rfl rfl ?_
        refine rn tk 4 rfl ?_
        cases hr
        exact jn _ rfl rfl rfl
      ·
       refine rn tk 8 rfl ?_
       obtain ⟨v28, h29, hr⟩ := bind_some hr
       refine ug rfl rfl rfl ?_
       refine cl (notice_id_run _ _ _ h29) rfl rfl ?_
       refine rn tk 4 rfl ?_
       cases hr
       exact jn _ rfl rfl rfl
   ·
    refine ac 64 hr rfl (fun c30 hr => ?_) (fun c30 hr => ?_)
    ·
     refine rn tk 3 rfl ?_
     obtain ⟨v31, h32, hr⟩ := bind_some hr
     refine cl (basic_None_run _ h32) rfl rfl ?_
     refine rn tk 7 rfl ?_
     cases hr
     exact kr tk (.inr rfl) rfl rfl
    ·
     refine rn tk 6 rfl ?_
     refine wb tk rfl rfl rfl ?_
     obtain ⟨v33, h34, hr⟩ := bind_some hr
     refine cl (notice_list_run _ _ h34) rfl rfl ?_
     refine rn tk 14 rfl ?_
     refine ac 75 hr rfl (fun c35 hr => ?_) (fun c35 hr => ?_)
     ·
      refine rn tk 3 rfl ?_
      obtain ⟨v36, h37, hr⟩ := bind_some hr
      refine cl (basic_None_run _ h37) rfl rfl ?_
      refine rn tk 7 rfl ?_
      cases hr
      exact kr tk (.inr rfl) rfl rfl
     ·
      refine rn tk 8 rfl ?_
      obtain ⟨v38, h39, hr⟩ := bind_some hr
      refine cl (basic_None_run _ h39) rfl rfl ?_
      refine rn tk 6 rfl ?_
      cases hr
      exact kr tk (.inr rfl) rfl rfl
theorem L_tells_run  (r : Bool) (hr : L_tells = some r) : Run Tryz.prog 5 [] (.bo r) := by
 unfold L_tells at hr
 refine rf (fn := Tryz.f5) ⟨Tryz.func5, rfl, by kernel_rfl⟩ rfl (fun _ => rfl) fun g0 hg => ?_
 refine rn tk 7 rfl ?_
 refine wz cS ([([97, 64, 121] : Str)] : List Str) tk rfl rfl (fun _ => rfl) rfl rfl rfl ?_
 obtain ⟨v1, h2, hr⟩ := bind_some hr
 refine cl (L_plain_run _ _ h2) rfl rfl ?_
 refine rn tk 1 rfl ?_
 refine wz TTold.pc ([(TTold.mk (([97, 64, 121] : Str)) 3)] : List TTold) tk rfl rfl (fun _ => rfl) rfl rfl rfl ?_
 obtain ⟨v3, h4, hr⟩ := bind_some hr
 refine cl (notice_Make_run _ _ _ _ _ h4) rfl rfl ?_
 refine rn tk 13 rfl ?_
 obtain ⟨v5, h6, hr⟩ := bind_some hr
 refine cl (notice_Read_run _ _ h6) rfl rfl ?_
 refine rn tk 14 rfl ?_
 obtain ⟨v7, h8, hr⟩ := bind_some hr
 refine cl (notice_Read_run _ _ h8) rfl rfl ?_
 refine rn tk 12 rfl ?_
 refine jb hr (fun j9 => [(1, .ptr 1 0), (3, .ptr 3 0), (69, .bo j9)]) (fun j9 => [(3, .cells [.i v5.1.Kind, .s v5.1.Id, .l TTold.pc v5.1.Told]), (1, .cells [.s v3.1.Envelope.From, .l TRecipient.pc v3.1.Envelope.To, .s v3.1.Envelope.Id, .l TField.pc v3.1.Message.Fields, .l cU v3.1.Message.Body])]) (fun j9 hr => ?_) (fun j9 hr => ?_)
 ·
  refine rn tk 5 rfl ?_
  refine bs 33 hr rfl (fun c10 hr => ?_) (fun c10 hr => ?_)
  ·
   refine rn tk 37 rfl ?_
   cases hr
   exact jn _ rfl rfl rfl
  ·
   refine rn tk 5 rfl ?_
   refine bs 38 hr rfl (fun c11 hr => ?_) (fun c11 hr => ?_)
   ·
    refine rn tk 32 rfl ?_
    cases hr
    exact jn _ rfl rfl rfl
   ·
    refine rn tk 5 rfl ?_
    refine bs 43 hr rfl (fun c12 hr => ?_) (fun c12 hr => ?_)
    ·
     refine rn tk 27 rfl ?_
     cases hr
     exact jn _ rfl rfl rfl
    ·
     refine rn tk 4 rfl ?_
     refine bs 47 hr rfl (fun c13 hr => ?_) (fun c13 hr => ?_)
     ·
      refine rn tk 23 rfl ?_
      cases hr
      exact jn _ rfl rfl rfl
     ·
      refine rn tk 3 rfl ?_
      refine bs 50 hr rfl (fun c14 hr => ?_) (fun c14 hr => ?_)
      ·
       refine rn tk 20 rfl ?_
       cases hr
       exact jn _ rfl rfl rfl
      ·
       refine rn tk 2 rfl ?_
       refine ug rfl rfl rfl ?_
       refine wn tk rfl rfl rfl ?_
       refine rn tk 3 rfl ?_
       refine bs 56 hr rfl (fun c15 hr => ?_) (fun c15 hr => ?_)
       ·
        refine rn tk 14 rfl ?_
        cases hr
        exact jn _ rfl rfl rfl
       ·
        refine rn tk 3 rfl ?_
        refine ug rfl rfl rfl ?_
        refine wn tk rfl rfl rfl ?_
        refine rn tk 3 rfl ?_
        refine bs 63 hr rfl (fun c16 hr => ?_) (fun c16 hr => ?_)
        ·
         refine rn tk 7 rfl ?_
         cases hr
         exact jn _ rfl rfl rfl
        ·
         refine rn tk 3 rfl ?_
         refine ug rfl rfl rfl ?_
         refine wn tk rfl rfl rfl ?_
         refine rn tk 3 rfl ?_
         cases hr
         exact jn _ rfl rfl rfl
 ·
  refine ac 69 hr rfl (fun c17 hr => ?_) (fun c17 hr => ?_)
  ·
   refine rn tk 7 rfl ?_
   cases hr
   exact kr tk (.inr rfl) rfl rfl
  ·
   refine rn tk 2 rfl ?_
   refine jb hr (fun j18 => [(0, .bo j18)]) (fun j18 => []) (fun j18 hr => ?_) (fun j18 hr => ?_)
   ·
    refine rn tk 6 rfl ?_
    refine bs 74 hr rfl (fun c19 hr => ?_) (fun c19 hr => ?_)
    ·
     refine rn tk 6 rfl ?_
     refine bs 80 hr rfl (fun c20 hr => ?_) (fun c20 hr => ?_)
     ·
      refine rn tk 3 rfl ?_
      obtain ⟨v21, h22, hr⟩ := bind_some hr
      refine ug rfl rfl rfl ?_
      refine wi tk h22 rfl rfl rfl rfl rfl ?_
      refine rn tk 2 rfl ?_
      refine ug rfl rfl rfl ?_
      refine wq (ev_structeq rfl rfl ty_api_Recipient cmp_api_Recipient (.str rfl (by decide) ty_string (.int rfl (by decide) ty_int .nil))) rfl rfl rfl ?_
      refine rn tk 2 rfl ?_
      refine bs 89 hr rfl (fun c23 hr => ?_) (fun c23 hr => ?_)
      ·
       refine rn tk 3 rfl ?_
       refine ug rfl rfl rfl ?_
       refine wb tk rfl rfl rfl ?_
       refine rn tk 3 rfl ?_
       refine bs 96 hr rfl (fun c24 hr => ?_) (fun c24 hr => ?_)
       ·
        refine rn tk 5 rfl ?_
        refine bs 101 hr rfl (fun c25 hr => ?_) (fun c25 hr => ?_)
        ·
         refine rn tk 5 rfl ?_
         refine bs 106 hr rfl (fun c26 hr => ?_) (fun c26 hr => ?_)
         ·
          refine rn tk 2 rfl ?_
          obtain ⟨v27, h28, hr⟩ := bind_some hr
          refine ug rfl rfl rfl ?_
          refine wi tk h28 rfl rfl rfl rfl rfl ?_
          refine rn tk 2 rfl ?_
          refine ug rfl rfl rfl ?_
          refine wq (ev_structeq rfl rfl ty_api_Told cmp_api_Told (.str rfl (by decide) ty_string (.int rfl (by decide) ty_int .nil))) rfl rfl rfl ?_
          refine rn tk 3 rfl ?_
          cases hr
          exact jn _ rfl rfl rfl
         ·
          refine rn tk 9 rfl ?_
          cases hr
          exact jn _ rfl rfl rfl
        ·
         refine rn tk 14 rfl ?_
         cases hr
         exact jn _ rfl rfl rfl
       ·
        refine rn tk 19 rfl ?_
        cases hr
        exact jn _ rfl rfl rfl
      ·
       refine rn tk 26 rfl ?_
       cases hr
       exact jn _ rfl rfl rfl
     ·
      refine rn tk 35 rfl ?_
      cases hr
      exact jn _ rfl rfl rfl
    ·
     refine rn tk 41 rfl ?_
     cases hr
     exact jn _ rfl rfl rfl
   ·
    refine rn tk 1 rfl ?_
    cases hr
    exact kr tk (.inr rfl) rfl rfl
end Go.Proofs.YtpclhpncmlbccaaGreatDoor

/- The abstract calculus: regions that draw their order, in short forms: what does not change the store is checked by computation. No program is named. -/
namespace Go.Proofs.YtpclhpncmlbccaaGreatDoor
open Go.RowKit Go.Lib

variable {E : Env} {fr : Fr} {σ : Sto} {K : Post} {T : Tab} {l : List Oper} {cs : List (Option AV)} {all : List Node} {H : List Bool}
theorem MSteps.of : ∀ {is : List Nat}, (∀ i ∈ is, MStep E l cs all H fr σ i) → MSteps E l cs all H fr σ is
  | [], _ => .nil
  | i :: is, h => .cons (h i (by simp)) (MSteps.of fun j hj => h j (by simp [hj]))
def pureQ (T : Tab) (l : List Oper) (cs : List (Option AV)) (fr : Fr) (σ : Sto) (i : Nat) : Option AV := (l[i]?).bind fun o => qval T (purF l cs (allT l) ++ fr).ev σ o.op
def pureC (cs : List (Option AV)) (i : Nat) : Option AV := (cs[i]?).bind id
end Go.Proofs.YtpclhpncmlbccaaGreatDoor

/- The abstract calculus: regions that draw their order, whose stores stand in one line: all by computation. No program is named. -/
namespace Go.Proofs.YtpclhpncmlbccaaGreatDoor
open Go.RowKit Go.Lib

variable {E : Env} {fr : Fr} {σ : Sto} {K : Post} {T : Tab} {l : List Oper} {cs : List (Option AV)} {all : List Node} {H : List Bool}
def tget : List (Nat × AV) → Nat → Option AV
  | [], _ => none
  | (k, c) :: r, i => bif Nat.beq k i then some c else tget r i
/-- the values of the operations, and the stores behind each store, in the order of the text -/
def zrun (T : Tab) (N : Nat) (tl : List (Nat × AV)) : List Oper → Nat → Fr → Sto → Option (List (Option AV) × List Sto × Sto)
  | [], _, _, σ => some ([], [], σ)
  | o :: r, i, fr, σ => match o.dst with
    | none => (match opDo T N o fr σ with
      | some (_, σ') => (match zrun T N tl r (i + 1) fr σ' with
        | some (cs, ss, sj) => some (none :: cs, σ' :: ss, sj)
        | none => none)
      | none => none)
    | some d => (match (match tget tl i with | some c => some c | none => qval T fr.ev σ o.op) with
      | some c => (match zrun T N tl r (i + 1) ((d, c) :: fr) σ with
        | some (cs, ss, sj) => some (some c :: cs, ss, sj)
        | none => none)
      | none => none)
def hvL (l : List Oper) (cs : List (Option AV)) : List Nat := (List.range l.length).filter (isHv cs)
def hvH (l : List Oper) (cs : List (Option AV)) (k : Nat) : List Bool := (List.range l.length).map fun i => ((hvL l cs).take k).contains i
def stoK (σ : Sto) (ss : List Sto) (k : Nat) : Sto := (σ :: ss).getD k σ
def nodK (l : List Oper) (cs : List (Option AV)) (fr : Fr) (σ : Sto) (ss : List Sto) (k : Nat) : Node := (hvH l cs k, fr, stoK σ ss k)
def nods (l : List Oper) (cs : List (Option AV)) (fr : Fr) (σ : Sto) (ss : List Sto) : List Node := (List.range ((hvL l cs).length + 1)).map (nodK l cs fr σ ss)
/-- what is checked as pure: all but the stores and what is told -/
def purK (l : List Oper) (cs : List (Option AV)) (tl : List (Nat × AV)) (k : Nat) : List Nat := (mayL l cs (hvH l cs k)).filter fun i => !(isHv cs i) && (tget tl i).isNone
/-- the store that stands in the line at place k, done -/
def stoD (T : Tab) (N : Nat) (l : List Oper) (cs : List (Option AV)) (fr : Fr) (σ : Sto) (ss : List Sto) (k : Nat) : Option Sto := match l[(hvL l cs).getD k 0]? with
  | some o => (match o.dst with
    | none => (opDo T N o (purF l cs (allT l) ++ fr) (stoK σ ss k)).map Prod.snd
    | some _ => none)
  | none => none
def zchk (N : Nat) (tl : List (Nat × AV)) (l : List Oper) (cs : List (Option AV)) : Bool :=
  maskOk N l cs &&
  ((List.range ((hvL l cs).length + 1)).all fun k => (mayL l cs (hvH l cs k)).all fun i => !(isHv cs i) || (Nat.beq i ((hvL l cs).getD k 0) && Nat.ble (k + 1) (hvL l cs).length)) &&
  ((List.range (hvL l cs).length).all fun k => ((hvH l cs k).set ((hvL l cs).getD k 0) true == hvH l cs (k + 1)) && !((List.range l.length).all fun i => !(isHv cs i) || (hvH l cs k).getD i false)) &&
  (hvH l cs 0 == List.replicate l.length false) &&
  ((List.range ((hvL l cs).length + 1)).all fun k => (purK l cs tl k).all fun i => (pureC cs i).isSome)
inductive Told (E : Env) (l : List Oper) (cs : List (Option AV)) (fr : Fr) (L : List Sto) : List (Nat × AV) → Prop
  | nil : Told E l cs fr L []
  | cons {i : Nat} {c : AV} {o : Oper} {r : List (Nat × AV)} (ho : l[i]? = some o) (hc : cs[i]? = some (some c)) (h : ∀ s, s ∈ L → OpG E o (purF l cs (allT l) ++ fr) s c) (hr : Told E l cs fr L r) : Told E l cs fr L ((i, c) :: r)
theorem Told.get {L : List Sto} {tl : List (Nat × AV)} (h : Told E l cs fr L tl) {i : Nat} (hi : (tget tl i).isSome = true) : ∃ o c, l[i]? = some o ∧ cs[i]? = some (some c) ∧ ∀ s, s ∈ L → OpG E o (purF l cs (allT l) ++ fr) s c := by
  induction h with
  | nil => cases hi
  | @cons k c o r ho hc h _ ih =>
    unfold tget at hi
    cases hb : Nat.beq k i with
    | true =>
      have := Nat.eq_of_beq_eq_true hb
      subst this
      exact ⟨o, c, ho, hc, h⟩
    | false => rw [hb] at hi; exact ih hi
theorem MNodes.of : ∀ {r : List Node}, (∀ nd ∈ r, MNode E l cs K all nd) → MNodes E l cs K all r
  | [], _ => .nil
  | nd :: r, h => .cons (h nd (by simp)) (MNodes.of fun x hx => h x (by simp [hx]))
theorem opDo_sto {N : Nat} {o : Oper} {FR : Fr} {p : Fr × Sto} (hT : TabOk E.P T) (hN : N = E.N) (hd : o.dst = none) (h : opDo T N o FR σ = some p) : HvS E o FR σ p.2 := by
  subst hN
  obtain ⟨f2, σ'⟩ := p
  refine ⟨fun fr he _ => ?_⟩
  refine opDo_ok hT ?_
  obtain ⟨dst, op, ty, pos, af, gu⟩ := o
  dsimp only at hd
  subst hd
  unfold opDo at h ⊢
  dsimp only at h ⊢
  cases op
  case store t x y =>
    have e1 := he x (by simp [Op.operands, Call.operands])
    have e2 := he y (by simp [Op.operands, Call.operands])
    dsimp only at h ⊢
    rw [e1, e2]
    split at h
    · rename_i row hr
      split at h
      · rename_i b off hx
        split at h
        · rename_i cs' ho
          split at h
          · rename_i vs hy
            cases hb : (Nat.beq vs.length row.size && Nat.ble (off + vs.length) cs'.length) with
            | false => rw [hb] at h; cases h
            | true =>
              rw [hb] at h
              simp only [cond_true] at h ⊢
              split at h
              · rename_i c2 hc2
                split at h
                · rename_i s2 hs2
                  cases h
                  simp only [hr, hx, ho, hy, hb, hc2, hs2, cond_true]
                · cases h
              · cases h
          · cases h
        · cases h
      · cases h
    · cases h
  all_goals cases h
theorem mc (hT : TabOk E.P T) {id : Nat} (tl : List (Nat × AV)) (frJ : Fr) {ss : List Sto} {σJ : Sto} (hmix : E.P.follows .mixedOrders = true) (hz : zrun T E.N tl l 0 fr σ = some (cs, ss, σJ))
    (hk : (zchk E.N tl l cs, (List.range ((hvL l cs).length + 1)).map (fun k => (purK l cs tl k).map (pureQ T l cs fr (stoK σ ss k))), (List.range (hvL l cs).length).map (stoD T E.N l cs fr σ ss), stoK σ ss (hvL l cs).length) = (true, (List.range ((hvL l cs).length + 1)).map (fun k => (purK l cs tl k).map (pureC cs)), (List.range (hvL l cs).length).map (fun k => some (stoK σ ss (k + 1))), σJ))
    (ht : Told E l cs fr (σ :: ss) tl) (hf : FrLe (purF l cs (allT l) ++ fr) frJ) (h : K .normal frJ σJ) : AWP E (.region id l.toArray true) fr σ K := by
  have k1 := congrArg (fun x => x.1) hk
  have k2 := congrArg (fun x => x.2.1) hk
  have k3 := congrArg (fun x => x.2.2.1) hk
  have k4 := congrArg (fun x => x.2.2.2) hk
  dsimp only at k1 k2 k3 k4
  rw [← k4] at h
  have hin : ∀ k, stoK σ ss k ∈ σ :: ss := fun k => by
    unfold stoK
    rw [List.getD_eq_getElem?_getD]
    cases hg : (σ :: ss)[k]? with
    | none => simp
    | some s => exact List.mem_of_getElem? hg
  simp only [zchk, Bool.and_eq_true, List.all_eq_true] at k1
  obtain ⟨⟨⟨⟨q1, q2⟩, q3⟩, q4⟩, q5⟩ := k1
  have hget : ∀ k, k < (hvL l cs).length + 1 → (nods l cs fr σ ss)[k]? = some (nodK l cs fr σ ss k) := fun k hk => by
    unfold nods
    rw [List.getElem?_map, List.getElem?_range hk]
    rfl
  refine awp_masked cs (nods l cs fr σ ss) hmix q1 (hget 0 (by omega)) (by simpa using q4) frLe_refl stoLe_refl2 (MNodes.of fun nd hnd => ?_)
  obtain ⟨k, hk', rfl⟩ := List.mem_map.1 hnd
  have hkr : k < (hvL l cs).length + 1 := by simpa using hk'
  have steps : MSteps E l cs (nods l cs fr σ ss) (hvH l cs k) fr (stoK σ ss k) (mayL l cs (hvH l cs k)) := MSteps.of fun i hi => by
    have hi2 := q2 k (by simpa using hkr) i hi
    cases hh : isHv cs i with
    | true =>
      rw [hh] at hi2
      simp only [Bool.not_true, Bool.false_or, Bool.and_eq_true] at hi2
      have hik := Nat.eq_of_beq_eq_true hi2.1
      have hkn := Nat.le_of_ble_eq_true hi2.2
      have h3 := List.map_inj_left.1 k3 k (List.mem_range.2 (by omega))
      have hq3 := q3 k (List.mem_range.2 (by omega))
      simp only [Bool.and_eq_true, beq_iff_eq] at hq3
      unfold stoD at h3
      rw [← hik] at h3 hq3
      split at h3
      · rename_i o ho
        split at h3
        · rename_i hd
          obtain ⟨p, hp, hp2⟩ := Option.map_eq_some_iff.1 h3
          have hc : cs[i]? = some none := by
            unfold isHv at hh
            split at hh
            · rename_i e; exact e
            · cases hh
          have hs := opDo_sto hT rfl hd hp
          rw [hp2] at hs
          exact .sto (k + 1) ho hc hs (by rw [hget (k + 1) (by omega)]; unfold nodK; rw [hq3.1]) frLe_refl stoLe_refl2
        · cases h3
      · cases h3
    | false =>
      cases htl : tget tl i with
      | some c0 =>
        obtain ⟨o, c, e1, e2, e3⟩ := ht.get (i := i) (by rw [htl]; rfl)
        exact .pure e1 e2 (e3 _ (hin k))
      | none =>
        have hm : i ∈ purK l cs tl k := by
          unfold purK
          rw [List.mem_filter]
          exact ⟨hi, by rw [hh, htl]; rfl⟩
        have e1 := List.map_inj_left.1 k2 k (by simpa using hkr)
        have hq : pureQ T l cs fr (stoK σ ss k) i = pureC cs i := List.map_inj_left.1 e1 i hm
        have hs := q5 k (by simpa using hkr) i hm
        obtain ⟨c, hcc⟩ := Option.isSome_iff_exists.1 hs
        rw [hcc] at hq
        obtain ⟨o, ho, hv⟩ := Option.bind_eq_some_iff.1 hq
        obtain ⟨x, hx, hxc⟩ := Option.bind_eq_some_iff.1 hcc
        have hxc : x = some c := hxc
        subst hxc
        exact .pure ho hx (opG_q (qval_ok hT hv))
  by_cases hkn : k < (hvL l cs).length
  · have hq3 := q3 k (by simpa using hkn)
    simp only [Bool.and_eq_true, Bool.not_eq_true'] at hq3
    exact .step _ rfl hq3.2 steps
  · have : k = (hvL l cs).length := by omega
    subst this
    exact .full _ rfl steps hf stoLe_refl2 h
end Go.Proofs.YtpclhpncmlbccaaGreatDoor

/- The parts of a replacer's first use: the lock, the mark that it is done (one goroutine). -/
namespace Go.Proofs.YtpclhpncmlbccaaGreatDoor
set_option maxRecDepth 100000
set_option maxHeartbeats 1600000
theorem rp_disable (w : World) : (callFunc 169 #[]).run Tryz.prog w = .ok (.value (.tuple #[])) w := run_call_mark0 Tryz.func169 (by kernel_rfl) (by kernel_rfl) (by kernel_rfl) .disable (by kernel_rfl) w
theorem rp_enable (w : World) : (callFunc 171 #[]).run Tryz.prog w = .ok (.value (.tuple #[])) w := run_call_mark0 Tryz.func171 (by kernel_rfl) (by kernel_rfl) (by kernel_rfl) .enable (by kernel_rfl) w
theorem rp_acquire (a : Addr) (w : World) : (callFunc 172 #[.pointer (some a)]).run Tryz.prog w = .ok (.value (.tuple #[])) w := run_call_marked Tryz.func172 (by kernel_rfl) (by kernel_rfl) (by kernel_rfl) .acquire (by kernel_rfl) a w
theorem rp_releaseMerge (a : Addr) (w : World) : (callFunc 174 #[.pointer (some a)]).run Tryz.prog w = .ok (.value (.tuple #[])) w := run_call_marked Tryz.func174 (by kernel_rfl) (by kernel_rfl) (by kernel_rfl) .releaseMerge (by kernel_rfl) a w
/-- the mark is stored, entered as a deferred call -/
theorem rp_store_deferred (a : Addr) (x : Value) (u : FrameMode) (w : World) (hc : w.cell? a = some x) (hz : w.frozen? a = false) :
    CallsD Tryz.prog 149 #[.pointer (some a), .bool true] u w fun e u' w' => u' = u ∧ (e = .returned (.tuple #[]) ∧ w' = w.drew.setCell a (.int .u32 1)) := by
  have hc' : w.drew.cell? a = some x := by go_simp
  have hz' : w.drew.frozen? a = false := by go_simp
  have hst := run_call_store (P := Tryz.prog) Tryz.func162 (by kernel_rfl) (by kernel_rfl) (by kernel_rfl) (by kernel_rfl) (k := .u32) (y := 1) hc' hz'
  go_enter_d Tryz.func149, Tryz.ntmps149
  go_wp2
  go_region_calls
  all_goals (go_end0; exact ⟨rfl, rfl⟩)
theorem rp_unlock_deferred (a : Addr) (u : FrameMode) (w : World) (hc : w.cell? a = some (.int .i32 1)) (hz : w.frozen? a = false) :
    CallsD Tryz.prog 148 #[.pointer (some a)] u w fun e u' w' => u' = u ∧ (e = .returned (.tuple #[]) ∧ w' = w.setCell a (.int .i32 0)) := by
  have hd := rp_disable
  have he := rp_enable
  have hr := rp_releaseMerge
  have hadd := run_call_add (P := Tryz.prog) Tryz.func175 (by kernel_rfl) (by kernel_rfl) (by kernel_rfl) .i32 (by kernel_rfl) (y := -1) (s := 0) hc hz (by simp [go_sem]; rfl)
  have hcv := run_convert_to_unsafe (P := Tryz.prog) (src := 233) (dst := 190) Tryz.underlying233 Tryz.underlying190 (by kernel_rfl) hc
  go_enter_d Tryz.func148, Tryz.ntmps148
  go_wp2
  go_end0
  go_wp2
  all_goals (go_end0; all_goals exact ⟨rfl, rfl⟩)
theorem rp_lock_free (a : Addr) (w : World) (hc : w.cell? a = some (.int .i32 0)) (hz : w.frozen? a = false) :
    Calls Tryz.prog 147 #[.pointer (some a)] w fun e w' => e = .returned (.tuple #[]) ∧ w' = w.setCell a (.int .i32 1) := by
  have hd := rp_disable
  have he := rp_enable
  have ha := rp_acquire
  have hcas := run_call_cas_hit (P := Tryz.prog) Tryz.func170 (by kernel_rfl) (by kernel_rfl) (by kernel_rfl) .i32 (by kernel_rfl) (y := 1) hc hz
  have hc' : (w.setCell a (.int .i32 1)).cell? a = some (.int .i32 1) := World.cell?_setCell_same w a _ hc
  have hcv := run_convert_to_unsafe (P := Tryz.prog) (src := 233) (dst := 190) Tryz.underlying233 Tryz.underlying190 (by kernel_rfl) hc'
  go_enter Tryz.func147, Tryz.ntmps147
  go_wp2
  first | go_end0 | (simp only [Exit.inBlock, Exit.then]; refine bodyPost_ret (results_none rfl _ _ _) rfl ?_) | refine bodyPost_ret (results_none rfl _ _ _) rfl ?_
  go_wp2
  all_goals (go_end0; all_goals exact ⟨rfl, rfl⟩)
end Go.Proofs.YtpclhpncmlbccaaGreatDoor

/- The table of a replacer of bytes. -/
namespace Go.Proofs.YtpclhpncmlbccaaGreatDoor
open Go.Shelf Go.RowKit Go.Lib
set_option maxRecDepth 1000000
set_option maxHeartbeats 4000000
def tabCells : Array Value := ((List.range 256).map fun k : Nat => Value.int .u8 (if k = 0 ∨ k = 13 then 32 else (k : Int))).toArray
def tabPart (i : Nat) : Array Value := ((List.range 256).map fun k : Nat => Value.int .u8 (if k < i then (k : Int) else 0)).toArray
structure RpLaid (P : Program) : Prop where
  mixed : P.follows Departure.mixedOrders = true
  f : P.funcs[128]? = some Tryz.f128
  t3 : P.underlying 3 = some (.int .i64)
  a3 : ∀ w : World, (isAgg 3).run P w = .ok false w
  z3 : ∀ w : World, (Go.sizeOf 3).run P w = .ok 1 w
  v3 : ∀ w : World, (zeroValue 3).run P w = .ok (.int .i64 0) w
  t4 : P.underlying 4 = some .bool
  a4 : ∀ w : World, (isAgg 4).run P w = .ok false w
  z4 : ∀ w : World, (Go.sizeOf 4).run P w = .ok 1 w
  v4 : ∀ w : World, (zeroValue 4).run P w = .ok (.bool false) w
  t5 : P.underlying 5 = some (.int .u8)
  a5 : ∀ w : World, (isAgg 5).run P w = .ok false w
  z5 : ∀ w : World, (Go.sizeOf 5).run P w = .ok 1 w
  v5 : ∀ w : World, (zeroValue 5).run P w = .ok (.int .u8 0) w
  t9 : P.underlying 9 = some .string
  a9 : ∀ w : World, (isAgg 9).run P w = .ok false w
  z9 : ∀ w : World, (Go.sizeOf 9).run P w = .ok 1 w
  v9 : ∀ w : World, (zeroValue 9).run P w = .ok (.string ⟨#[]⟩) w
  t91 : P.underlying 80 = some (.slice 9)
  a91 : ∀ w : World, (isAgg 80).run P w = .ok false w
  z91 : ∀ w : World, (Go.sizeOf 80).run P w = .ok 1 w
  v91 : ∀ w : World, (zeroValue 80).run P w = .ok (.slice none 0 0) w
  t222 : P.underlying 203 = some (.array 256 5)
  t170 : P.underlying 152 = some (.struct #[{ name := "once", type := 148, offset := 0, embedded := false, tag := "", pkgPath := "strings", byteOffset := 0 }, { name := "r", type := 150, offset := 3, embedded := false, tag := "", pkgPath := "strings", byteOffset := 16 }, { name := "oldnew", type := 80, offset := 4, embedded := false, tag := "", pkgPath := "strings", byteOffset := 32 }])
  z166 : ∀ w : World, (Go.sizeOf 148).run P w = .ok 3 w
  z168 : ∀ w : World, (Go.sizeOf 150).run P w = .ok 1 w
  hv222 : ∀ w : World, (zeroValue 203).run P w = .ok (.agg (tabPart 0)) w
  c223 : P.concrete 204 = true
  z222 : ∀ w : World, (Go.sizeOf 203).run P w = .ok 256 w
  hi222 : (P.info? 203).map (·.size) = some 256
theorem rp_laid : RpLaid Tryz.prog where
  mixed := by kernel_rfl
  f := Tryz.func128
  t3 := Tryz.underlying3
  a3 := Tryz.isAgg3
  z3 := Tryz.sizeOf3
  v3 := Tryz.zeroValue3
  t4 := Tryz.underlying4
  a4 := Tryz.isAgg4
  z4 := Tryz.sizeOf4
  v4 := Tryz.zeroValue4
  t5 := Tryz.underlying5
  a5 := Tryz.isAgg5
  z5 := Tryz.sizeOf5
  v5 := Tryz.zeroValue5
  t9 := Tryz.underlying9
  a9 := Tryz.isAgg9
  z9 := Tryz.sizeOf9
  v9 := Tryz.zeroValue9
  t91 := Tryz.underlying80
  a91 := Tryz.isAgg80
  z91 := Tryz.sizeOf80
  v91 := Tryz.zeroValue80
  t222 := Tryz.underlying203
  t170 := Tryz.underlying152
  z166 := Tryz.sizeOf148
  z168 := Tryz.sizeOf150
  hv222 := fun w => (Tryz.zeroValue203 w).trans (by kernel_rfl)
  c223 := by kernel_rfl
  z222 := Tryz.sizeOf203
  hi222 := by kernel_rfl
theorem tabPart_at (i k : Nat) (h : k < 256) : (tabPart i)[k]? = some (.int .u8 (if k < i then (k : Int) else 0)) := by
  unfold tabPart
  simp only [List.getElem?_toArray, List.getElem?_map, List.getElem?_range h, Option.map_some]
theorem tabPart_set (i : Nat) (h : i < 256) : (tabPart i).setIfInBounds i (.int .u8 (i : Int)) = tabPart (i + 1) := by
  apply Array.ext_getElem?
  intro k
  rw [Array.getElem?_setIfInBounds]
  unfold tabPart
  simp only [List.getElem?_toArray, List.getElem?_map, List.size_toArray, List.length_map, List.length_range]
  by_cases hk : i = k
  · subst hk
    rw [if_pos rfl, if_pos h, List.getElem?_range h]
    simp
  · rw [if_neg hk]
    by_cases h2 : k < 256
    · rw [List.getElem?_range h2]
      simp only [Option.map_some]
      have : (k < i) ↔ (k < i + 1) := by omega
      simp only [this]
    · rw [List.getElem?_eq_none (by simp; omega)]
      rfl
def tabMid : Array Value := (tabPart 256).setIfInBounds 13 (.int .u8 32)
theorem tabMid_set : tabMid.setIfInBounds 0 (.int .u8 32) = tabCells := by kernel_rfl
theorem rp_build {P : Program} (L : RpLaid P) (b d o c : Nat) (w : World) (hr : w.cell? ⟨b, 4, none⟩ = some (.slice (some ⟨d, o, none⟩) 4 c)) (hd : d < w.heap.size) (h0 : w.cell? ⟨d, o, none⟩ = some (.string ⟨#[0]⟩)) (h1 : w.cell? ⟨d, o + 1, none⟩ = some (.string ⟨#[32]⟩)) (h2 : w.cell? ⟨d, o + 2, none⟩ = some (.string ⟨#[13]⟩)) (h3 : w.cell? ⟨d, o + 3, none⟩ = some (.string ⟨#[32]⟩)) :
    Calls P 128 #[.pointer (some ⟨b, 0, none⟩)] w fun e w' => e = .returned (.iface 204 (.pointer (some ⟨w.heap.size, 0, none⟩))) ∧ w' = w.alloc (.cells tabCells 203) := by
  have t3 := L.t3; have a3 := L.a3; have z3 := L.z3; have v3 := L.v3
  have t4 := L.t4; have a4 := L.a4; have z4 := L.z4; have v4 := L.v4
  have t5 := L.t5; have a5 := L.a5; have z5 := L.z5; have v5 := L.v5
  have t9 := L.t9; have a9 := L.a9; have z9 := L.z9; have v9 := L.v9
  have t91 := L.t91; have a91 := L.a91; have z91 := L.z91; have v91 := L.v91
  have t170 := L.t170; have z166 := L.z166; have z168 := L.z168
  have hv222 := L.hv222; have u222 := run_underlying L.t222; have t222 := L.t222
  have u170 := run_underlying L.t170; have u91 := run_underlying L.t91; have u9 := run_underlying L.t9; have u5 := run_underlying L.t5; have u3 := run_underlying L.t3; have u4 := run_underlying L.t4
  have hmk : ∀ (x : Value) (w : World), (Instr.makeInterface 204 x).run P w = .ok (.iface 204 x) w := fun x w => run_makeInterface w _ x L.c223
  go_enter L.f, Tryz.ntmps128
  go_wp2
  go_loopg [4, 5] 2 (fun g v4 v5 wx => v4 = .bool true ∧ wx = w ∧ ((g = 2 ∧ v5 = .int .i64 0) ∨ (g = 1 ∧ v5 = .int .i64 2) ∨ (g = 0 ∧ v5 = .int .i64 4)))
  case atStart => exact ⟨rfl, rfl, .inl ⟨rfl, rfl⟩⟩
  case round =>
    obtain ⟨rfl, rfl, hg⟩ := hrel
    rcases hg with ⟨rfl, rfl⟩ | ⟨rfl, rfl⟩ | ⟨rfl, rfl⟩
    · go_wp2
      go_roundg 1
      case measure => omega
      case rel => exact ⟨rfl, rfl, .inr (.inl ⟨rfl, rfl⟩)⟩
    · go_wp2
      go_roundg 0
      case measure => omega
      case rel => exact ⟨rfl, rfl, .inr (.inr ⟨rfl, rfl⟩)⟩
    · have hsz : (tabPart 0).size = 256 := by simp [tabPart]
      have hsc := run_storeCells_new (P := P) wr 203 (tabPart 0) (tabPart 0) (by rw [hsz]; exact L.hi222) rfl (by decide +kernel)
      go_wp2
      simp only [L.z222, Result.andThen, ↓reduceIte, hsc]
      rw [Oper.upon_skip]
      go_wp2
      have k0 : ∀ A : Array Value, (wr.alloc (.cells A 203)).cell? ⟨d, o, none⟩ = some (.string ⟨#[0]⟩) := fun A => by rw [World.cell?_alloc_past _ _ _ hd]; exact h0
      have k1 : ∀ A : Array Value, (wr.alloc (.cells A 203)).cell? ⟨d, o + 1, none⟩ = some (.string ⟨#[32]⟩) := fun A => by rw [World.cell?_alloc_past _ _ _ hd]; exact h1
      have k2 : ∀ A : Array Value, (wr.alloc (.cells A 203)).cell? ⟨d, o + 2, none⟩ = some (.string ⟨#[13]⟩) := fun A => by rw [World.cell?_alloc_past _ _ _ hd]; exact h2
      have k3 : ∀ A : Array Value, (wr.alloc (.cells A 203)).cell? ⟨d, o + 3, none⟩ = some (.string ⟨#[32]⟩) := fun A => by rw [World.cell?_alloc_past _ _ _ hd]; exact h3
      go_loopg [61] 256 (fun g v61 wx => ∃ i : Nat, i + g = 256 ∧ v61 = .int .i64 i ∧ wx = wr.alloc (.cells (tabPart i) 203))
      case atStart => exact ⟨0, rfl, rfl, rfl⟩
      case round =>
        obtain ⟨i, hig, rfl, rfl⟩ := hrel
        cases gk with
        | zero =>
          obtain rfl : i = 256 := by omega
          have c13 := tabPart_at 256 13 (by omega)
          have m0 : tabMid[0]? = some (.int .u8 0) := by kernel_rfl
          have hm1 : (tabPart 256).setIfInBounds 13 (.int .u8 32) = tabMid := rfl
          have hm2 := tabMid_set
          go_wp2
          go_loopg [8] 2 (fun g v8 wx => (g = 2 ∧ v8 = .int .i64 2 ∧ wx = wr.alloc (.cells (tabPart 256) 203)) ∨ (g = 1 ∧ v8 = .int .i64 0 ∧ wx = wr.alloc (.cells tabMid 203)) ∨ (g = 0 ∧ v8 = .int .i64 (-2) ∧ wx = wr.alloc (.cells tabCells 203)))
          case atStart => exact .inl ⟨rfl, rfl, rfl⟩
          case round =>
            rcases hrel with ⟨rfl, rfl, rfl⟩ | ⟨rfl, rfl, rfl⟩ | ⟨rfl, rfl, rfl⟩
            · go_wp2
              go_roundg 1
              case measure => omega
              case rel => exact .inr (.inl ⟨rfl, rfl, by first | rfl | rw [hm1]⟩)
            · go_wp2
              go_roundg 0
              case measure => omega
              case rel => exact .inr (.inr ⟨rfl, rfl, by first | rfl | rw [hm2]⟩)
            · go_wp2
              go_ret
              exact ⟨rfl, rfl⟩
        | succ g =>
          have hi : (i : Int) < 256 := by omega
          have hset := tabPart_set i (by omega)
          have hcell := tabPart_at i i (by omega)
          go_wp2
          go_roundg g
          case measure => omega
          case rel => exact ⟨i + 1, by omega, by first | rfl | simp, by first | rfl | rw [hset]⟩
end Go.Proofs.YtpclhpncmlbccaaGreatDoor

/- A replacer's first use: the table is built once (one goroutine). -/
namespace Go.Proofs.YtpclhpncmlbccaaGreatDoor
open Go.Shelf Go.RowKit Go.Lib
set_option maxRecDepth 100000
set_option maxHeartbeats 4000000
abbrev bI (A : Nat) : Value := .iface 204 (.pointer (some ⟨A, 0, none⟩))
theorem addr_ne {b i j : Nat} (h : i ≠ j) : (⟨b, i, none⟩ : Addr) ≠ ⟨b, j, none⟩ := fun e => h (by cases e; rfl)
theorem blk_ne {b c i j : Nat} (h : b ≠ c) : (⟨b, i, none⟩ : Addr) ≠ ⟨c, j, none⟩ := fun e => h (by cases e; rfl)
/-- the memory of a replacer that has not been used, and what it was made of -/
structure Fresh (w : World) (b d o c : Nat) : Prop where
  hb : b < w.heap.size
  hd : d < w.heap.size
  ne : b ≠ d
  c0 : w.cell? ⟨b, 0, none⟩ = some (.int .u32 0)
  c1 : w.cell? ⟨b, 1, none⟩ = some (.int .i32 0)
  c3 : w.cell? ⟨b, 3, none⟩ = some .nilIface
  c4 : w.cell? ⟨b, 4, none⟩ = some (.slice (some ⟨d, o, none⟩) 4 c)
  fz : ∀ i, w.frozen? ⟨b, i, none⟩ = false
  s0 : w.cell? ⟨d, o, none⟩ = some (.string ⟨#[0]⟩)
  s1 : w.cell? ⟨d, o + 1, none⟩ = some (.string ⟨#[32]⟩)
  s2 : w.cell? ⟨d, o + 2, none⟩ = some (.string ⟨#[13]⟩)
  s3 : w.cell? ⟨d, o + 3, none⟩ = some (.string ⟨#[32]⟩)
theorem rp_once (b d o c : Nat) (w : World) (hb : b < w.heap.size) (hd : d < w.heap.size) (c3 : w.cell? ⟨b, 3, none⟩ = some .nilIface) (c4 : w.cell? ⟨b, 4, none⟩ = some (.slice (some ⟨d, o, none⟩) 4 c)) (fz : ∀ i, w.frozen? ⟨b, i, none⟩ = false)
    (s0 : w.cell? ⟨d, o, none⟩ = some (.string ⟨#[0]⟩)) (s1 : w.cell? ⟨d, o + 1, none⟩ = some (.string ⟨#[32]⟩)) (s2 : w.cell? ⟨d, o + 2, none⟩ = some (.string ⟨#[13]⟩)) (s3 : w.cell? ⟨d, o + 3, none⟩ = some (.string ⟨#[32]⟩)) :
    Calls Tryz.prog 101 #[.pointer (some ⟨b, 0, none⟩)] w fun e w' => e = .returned (.tuple #[]) ∧
      w' = ((w.setCell ⟨b, 3, none⟩ (bI w.heap.size)).setCell ⟨b, 4, none⟩ (.slice none 0 0)).alloc (.cells tabCells 203) := by
  have a3 : (w.alloc (.cells tabCells 203)).cell? ⟨b, 3, none⟩ = some .nilIface := by rw [World.cell?_alloc_past _ _ _ hb]; exact c3
  have z3 : (w.alloc (.cells tabCells 203)).frozen? ⟨b, 3, none⟩ = false := by rw [World.frozen?_alloc_past _ _ _ hb]; exact fz 3
  have a4 : ((w.alloc (.cells tabCells 203)).setCell ⟨b, 3, none⟩ (bI w.heap.size)).cell? ⟨b, 4, none⟩ = some (.slice (some ⟨d, o, none⟩) 4 c) := by rw [World.cell?_setCell_other _ _ _ _ (addr_ne (by decide)), World.cell?_alloc_past _ _ _ hb]; exact c4
  have z4 : ((w.alloc (.cells tabCells 203)).setCell ⟨b, 3, none⟩ (bI w.heap.size)).frozen? ⟨b, 4, none⟩ = false := by
    have := fz 4
    have h2 : (w.alloc (.cells tabCells 203)).frozen? ⟨b, 4, none⟩ = false := by rw [World.frozen?_alloc_past _ _ _ hb]; exact this
    simp [h2]
  go_enter Tryz.func101, Tryz.ntmps101
  go_wp2_with (go_at_call 128; refine (rp_build rp_laid b d o c _ c4 hd s0 s1 s2 s3).mono ?_; rintro e w' ⟨rfl, rfl⟩)
  go_end0
  exact ⟨rfl, rfl⟩
theorem rp_load0 (a : Addr) (w : World) (h : w.cell? a = some (.int .u32 0)) : Calls Tryz.prog 126 #[.pointer (some a)] w fun e w' => e = .returned (.bool false) ∧ w' = w := by
  have hl := run_call_load (P := Tryz.prog) Tryz.func146 (by kernel_rfl) (by kernel_rfl) (by kernel_rfl) .u32 (by kernel_rfl) h
  go_enter Tryz.func126, Tryz.ntmps126
  go_wp2
  go_ret
  exact ⟨rfl, rfl⟩
theorem rp_load1 (a : Addr) (w : World) (h : w.cell? a = some (.int .u32 1)) : Calls Tryz.prog 126 #[.pointer (some a)] w fun e w' => e = .returned (.bool true) ∧ w' = w := by
  have hl := run_call_load (P := Tryz.prog) Tryz.func146 (by kernel_rfl) (by kernel_rfl) (by kernel_rfl) .u32 (by kernel_rfl) h
  go_enter Tryz.func126, Tryz.ntmps126
  go_wp2
  go_ret
  exact ⟨rfl, rfl⟩
/-- the world behind the first use -/
def ranW (b : Nat) (w : World) : World := (((((w.setCell ⟨b, 1, none⟩ (.int .i32 1)).setCell ⟨b, 3, none⟩ (bI w.heap.size)).setCell ⟨b, 4, none⟩ (.slice none 0 0)).alloc (.cells tabCells 203)).drew.setCell ⟨b, 0, none⟩ (.int .u32 1)).setCell ⟨b, 1, none⟩ (.int .i32 0)
theorem rp_slow (b d o c : Nat) (w : World) (F : Fresh w b d o c) :
    Calls Tryz.prog 127 #[.pointer (some ⟨b, 0, none⟩), .func (.func 101) #[.pointer (some ⟨b, 0, none⟩)] #[]] w fun e w' => e = .returned (.tuple #[]) ∧ w' = ranW b w := by
  have hw1 : (w.setCell ⟨b, 1, none⟩ (.int .i32 1)).heap.size = w.heap.size := by simp
  have hl : (w.setCell ⟨b, 1, none⟩ (.int .i32 1)).cell? ⟨b, 0, none⟩ = some (.int .u32 0) := (World.cell?_setCell_other _ ⟨b, 1, none⟩ ⟨b, 0, none⟩ _ (by simp)).trans F.c0
  have ho : Calls Tryz.prog 101 #[.pointer (some ⟨b, 0, none⟩)] (w.setCell ⟨b, 1, none⟩ (.int .i32 1)) fun e w' => e = .returned (.tuple #[]) ∧
      w' = (((w.setCell ⟨b, 1, none⟩ (.int .i32 1)).setCell ⟨b, 3, none⟩ (bI w.heap.size)).setCell ⟨b, 4, none⟩ (.slice none 0 0)).alloc (.cells tabCells 203) := by
    have h := rp_once b d o c (w.setCell ⟨b, 1, none⟩ (.int .i32 1)) (by rw [hw1]; exact F.hb) (by rw [hw1]; exact F.hd) ((World.cell?_setCell_other _ _ _ _ (addr_ne (by decide))).trans F.c3) ((World.cell?_setCell_other _ _ _ _ (addr_ne (by decide))).trans F.c4) (fun i => by have := F.fz i; simp [this])
      ((World.cell?_setCell_other _ _ _ _ (blk_ne F.ne)).trans F.s0) ((World.cell?_setCell_other _ _ _ _ (blk_ne F.ne)).trans F.s1) ((World.cell?_setCell_other _ _ _ _ (blk_ne F.ne)).trans F.s2) ((World.cell?_setCell_other _ _ _ _ (blk_ne F.ne)).trans F.s3)
    rw [hw1] at h
    exact h
  have hnot : ∀ (x : Bool) (w : World), (Op.unary .not (.bool x)).run Tryz.prog w = .ok (.bool (!x)) w := fun _ _ => rfl
  have h1 := F.c1
  have f1 := F.fz 1
  go_enter_defers Tryz.func127, Tryz.ntmps127
  go_wp2_with (first | (go_at_call 147; refine (rp_lock_free ⟨b, 1, none⟩ _ (by go_simp) (by go_simp)).mono ?_; rintro e w' ⟨rfl, rfl⟩) | (go_at_call 126; refine (rp_load0 ⟨b, 0, none⟩ _ hl).mono ?_; rintro e w' ⟨rfl, rfl⟩) | (go_at_call 101; refine ho.mono ?_; rintro e w' ⟨rfl, rfl⟩))
  go_wp2
  -- two deferred calls, the last laid first
  have hA0 : ((((w.setCell ⟨b, 1, none⟩ (.int .i32 1)).setCell ⟨b, 3, none⟩ (bI w.heap.size)).setCell ⟨b, 4, none⟩ (.slice none 0 0)).alloc (.cells tabCells 203)).cell? ⟨b, 0, none⟩ = some (.int .u32 0) := by
    rw [World.cell?_alloc_past _ _ _ (by simp; exact F.hb), World.cell?_setCell_other _ _ _ _ (addr_ne (by decide)), World.cell?_setCell_other _ _ _ _ (addr_ne (by decide)), World.cell?_setCell_other _ _ _ _ (addr_ne (by decide))]
    exact F.c0
  have hA1 : ((((w.setCell ⟨b, 1, none⟩ (.int .i32 1)).setCell ⟨b, 3, none⟩ (bI w.heap.size)).setCell ⟨b, 4, none⟩ (.slice none 0 0)).alloc (.cells tabCells 203)).cell? ⟨b, 1, none⟩ = some (.int .i32 1) := by
    rw [World.cell?_alloc_past _ _ _ (by simp; exact F.hb), World.cell?_setCell_other _ _ _ _ (addr_ne (by decide)), World.cell?_setCell_other _ _ _ _ (addr_ne (by decide))]
    exact World.cell?_setCell_same w _ _ h1
  have hZ : ∀ i, ((((w.setCell ⟨b, 1, none⟩ (.int .i32 1)).setCell ⟨b, 3, none⟩ (bI w.heap.size)).setCell ⟨b, 4, none⟩ (.slice none 0 0)).alloc (.cells tabCells 203)).frozen? ⟨b, i, none⟩ = false := fun i => by
    have := F.fz i
    rw [World.frozen?_alloc_past _ _ _ (by simp; exact F.hb)]
    simp [this]
  refine leaves_cons (f := 149) (args := #[.pointer (some ⟨b, 0, none⟩), .bool true]) (by simp) (by simp [go_sem]) ?_
  refine (rp_store_deferred ⟨b, 0, none⟩ (.int .u32 0) .returning _ hA0 (hZ 0)).mono ?_
  rintro e u' w'' ⟨rfl, rfl, rfl⟩
  refine leaves_cons (f := 148) (args := #[.pointer (some ⟨b, 1, none⟩)]) (by simp [settle]) (by simp [go_sem]) ?_
  refine (rp_unlock_deferred ⟨b, 1, none⟩ _ _ ?_ ?_).mono ?_
  · rw [World.cell?_setCell_other _ _ _ _ (addr_ne (by decide)), World.cell?_drew]
    exact hA1
  · have := hZ 1
    simp at this ⊢
    exact this
  rintro e u' w'' ⟨rfl, rfl, rfl⟩
  simp [Leaves, settle, results, Tryz.results127, ranW]
end Go.Proofs.YtpclhpncmlbccaaGreatDoor

/- A replacer of bytes: its uses. -/
namespace Go.Proofs.YtpclhpncmlbccaaGreatDoor
open Go.Shelf Go.RowKit Go.Lib
set_option maxRecDepth 100000
set_option maxHeartbeats 4000000
theorem rp_do_first (b d o c : Nat) (w : World) (F : Fresh w b d o c) :
    Calls Tryz.prog 100 #[.pointer (some ⟨b, 0, none⟩), .func (.func 101) #[.pointer (some ⟨b, 0, none⟩)] #[]] w fun e w' => e = .returned (.tuple #[]) ∧ w' = ranW b w := by
  have hnot : ∀ (x : Bool) (w : World), (Op.unary .not (.bool x)).run Tryz.prog w = .ok (.bool (!x)) w := fun _ _ => rfl
  go_enter Tryz.func100, Tryz.ntmps100
  go_wp2_with (first | (go_at_call 126; refine (rp_load0 ⟨b, 0, none⟩ _ F.c0).mono ?_; rintro e w' ⟨rfl, rfl⟩) | (go_at_call 127; refine (rp_slow b d o c _ F).mono ?_; rintro e w' ⟨rfl, rfl⟩))
  go_end0
  exact ⟨rfl, rfl⟩
theorem rp_do_done (b : Nat) (fv : Value) (w : World) (h : w.cell? ⟨b, 0, none⟩ = some (.int .u32 1)) :
    Calls Tryz.prog 100 #[.pointer (some ⟨b, 0, none⟩), fv] w fun e w' => e = .returned (.tuple #[]) ∧ w' = w := by
  have hnot : ∀ (x : Bool) (w : World), (Op.unary .not (.bool x)).run Tryz.prog w = .ok (.bool (!x)) w := fun _ _ => rfl
  go_enter Tryz.func100, Tryz.ntmps100
  go_wp2_with (go_at_call 126; refine (rp_load1 ⟨b, 0, none⟩ _ h).mono ?_; rintro e w' ⟨rfl, rfl⟩)
  go_end0
  exact ⟨rfl, rfl⟩
def mixL (L : List UInt8) (i : Nat) : List UInt8 := (L.take i).map cleanB ++ L.drop i
theorem mix_zero (L : List UInt8) : mixL L 0 = L := by simp [mixL]
theorem mix_all (L : List UInt8) : mixL L L.length = L.map cleanB := by simp [mixL]
theorem mix_len (L : List UInt8) (i : Nat) : (mixL L i).length = L.length := by simp [mixL]; omega
theorem mix_at {L : List UInt8} {i : Nat} {x : UInt8} (h : L[i]? = some x) : (mixL L i)[i]? = some x := by
  have hi := (List.getElem?_eq_some_iff.1 h).1
  unfold mixL
  rw [List.getElem?_append_right (by simp; omega)]
  simp only [List.length_map, List.length_take, List.getElem?_drop]
  rw [show i + (i - min i L.length) = i by omega]
  exact h
theorem mix_succ {L : List UInt8} {i : Nat} {x : UInt8} (h : L[i]? = some x) : mixL L (i + 1) = (mixL L i).set i (cleanB x) := by
  have hi := (List.getElem?_eq_some_iff.1 h).1
  have hx := (List.getElem?_eq_some_iff.1 h).2
  unfold mixL
  rw [List.set_append_right _ _ (by simp; omega)]
  simp only [List.length_map, List.length_take]
  rw [show i - min i L.length = 0 by omega, List.take_add_one, h, List.drop_eq_getElem_cons hi, hx]
  simp
theorem mix_same {L : List UInt8} {i : Nat} {x : UInt8} (h : L[i]? = some x) (hc : cleanB x = x) : mixL L (i + 1) = mixL L i := by
  rw [mix_succ h, hc]
  apply List.ext_getElem?
  intro j
  rw [List.getElem?_set]
  by_cases e : i = j
  · subst e
    rw [if_pos rfl, if_pos (by rw [mix_len]; exact (List.getElem?_eq_some_iff.1 h).1), mix_at h]
  · rw [if_neg e]
theorem cleanB_nat {x : UInt8} (h : ((cleanB x).toNat : Int) = (x.toNat : Int)) : cleanB x = x := UInt8.toNat_inj.1 (by omega)
def rowOf (C : Array Value) (l : List UInt8) : Prop := ∀ (j : Nat) x, l[j]? = some x → C[j]? = some (.int .u8 (x.toNat : Int))
theorem rowOf_set {C : Array Value} {l : List UInt8} {i : Nat} {y : UInt8} (h : rowOf C l) (hi : i < l.length) : rowOf (C.setIfInBounds i (.int .u8 (y.toNat : Int))) (l.set i y) := by
  intro j x hx
  have hC := h i _ (List.getElem?_eq_getElem hi)
  have hsz := (Array.getElem?_eq_some_iff.1 hC).1
  rw [List.getElem?_set] at hx
  rw [Array.getElem?_setIfInBounds]
  by_cases e : i = j
  · subst e
    rw [if_pos rfl, if_pos hi] at hx
    cases hx
    rw [if_pos rfl, if_pos hsz]
  · rw [if_neg e] at hx ⊢
    exact h j x hx
theorem rowOf_bytes (s : ByteArray) (cap : Nat) : rowOf (bytesRow s cap) s.data.toList := by
  intro j x hx
  have hj := (List.getElem?_eq_some_iff.1 hx).1
  unfold bytesRow
  rw [Array.getElem?_append_left (by simpa using hj)]
  simp only [Array.getElem?_map]
  rw [show s.data[j]? = some x by simpa using hx]
  rfl
theorem setCell_mark (w : World) (C : Array Value) (t : TypeId) (fz : Nat × Nat) (i : Nat) (v : Value) : (w.alloc (.cells C t fz)).setCell ⟨w.heap.size, i, none⟩ v = w.alloc (.cells (C.setIfInBounds i v) t fz) := by
  unfold World.setCell World.alloc
  congr 1
  apply Array.ext_getElem?
  intro k
  simp only [Array.getElem?_modify, Array.getElem?_push]
  by_cases hk : k = w.heap.size
  · subst hk
    simp
  · simp [hk, Ne.symm hk]
theorem rp_bytes (A : Nat) (s : ByteArray) (w : World) (hlen : s.size ≤ 4611686018427387904) (hA : A < w.heap.size) (ht : ∀ x : UInt8, w.cell? ⟨A, x.toNat, none⟩ = some (.int .u8 ((cleanB x).toNat : Int))) :
    Calls Tryz.prog 208 #[.pointer (some ⟨A, 0, none⟩), .string s] w fun e w' => e = .returned (.string ⟨(s.data.toList.map cleanB).toArray⟩) ∧ (w' = w ∨ ∃ C fz, w' = (w.alloc (.cells C 5 fz)).drew) := by
  have HT : Aside (∀ x : UInt8, w.cell? ⟨A, x.toNat, none⟩ = some (.int .u8 ((cleanB x).toNat : Int))) := ht
  clear ht
  have HT2 : Aside (∀ (x : UInt8) (C : Array Value) (fz : Nat × Nat), (w.alloc (.cells C 5 fz)).cell? ⟨A, x.toNat, none⟩ = some (.int .u8 ((cleanB x).toNat : Int))) := fun x C fz => by
    rw [World.cell?_alloc_past _ _ _ hA]
    exact HT.out x
  have hcv : (convert 9 26 (.string s)).run Tryz.prog w = .ok (.slice (some ⟨w.heap.size, 0, none⟩) s.size (grownCap w s.size 0 5))
      (w.alloc (.cells (bytesRow s (grownCap w s.size 0 5)) 5 ((bytesRow s (grownCap w s.size 0 5)).size, (bytesRow s (grownCap w s.size 0 5)).size + 1))).drew := run_bytes_of_string (P := Tryz.prog) w 9 26 5 s Tryz.underlying9 Tryz.underlying26 Tryz.underlying5
  have hn1 : ∀ w : World, (binOp .eql 26 (.slice none 0 0) (.slice none 0 0)).run Tryz.prog w = .ok (.bool true) w := fun w => by
    simp only [binOp]
    simp [run_equal_slice_nil w 26 5 none 0 0 Tryz.underlying26]
  have hn2 : ∀ (a : Addr) (l c : Nat) (w : World), (binOp .eql 26 (.slice (some a) l c) (.slice none 0 0)).run Tryz.prog w = .ok (.bool false) w := fun a l c w => by
    simp only [binOp]
    simp [run_equal_slice_nil w 26 5 (some a) l c Tryz.underlying26]
  have hL : Lib.Kept (s.data.toList.length = s.size) := rfl
  go_enter Tryz.func208, Tryz.ntmps208
  go_wp2
  go_loopg [5, 6] s.size (fun g v5 v6 wx => ∃ i : Nat, i + g = s.size ∧ v6 = .int .i64 i ∧ ((v5 = .slice none 0 0 ∧ wx = w ∧ Lib.Kept (mixL s.data.toList i = s.data.toList)) ∨ ∃ C cap lo hi, v5 = .slice (some ⟨w.heap.size, 0, none⟩) s.size cap ∧ wx = (w.alloc (.cells C 5 (lo, hi))).drew ∧ Lib.Kept (lo = C.size) ∧ Lib.Kept (rowOf C (mixL s.data.toList i))))
  case atStart => exact ⟨0, by omega, rfl, .inl ⟨rfl, rfl, mix_zero _⟩⟩
  case round =>
    obtain ⟨i, hig, rfl, hrel⟩ := hrel
    cases gk with
    | zero =>
      obtain rfl : i = s.size := by omega
      have hiz : ¬ ((s.size : Int) < (s.size : Int)) := by omega
      rcases hrel with ⟨rfl, rfl, hk⟩ | ⟨C, cap, lo, hi, rfl, rfl, hz, hrow⟩
      · go_wp2
        go_ret
        refine ⟨?_, .inl rfl⟩
        have hk' : mixL s.data.toList s.size = s.data.toList := hk
        rw [show s.size = s.data.toList.length from rfl, mix_all] at hk'
        rw [hk']
        show Ending.returned (Value.string s) = Ending.returned (Value.string ⟨s.data.toList.toArray⟩)
        simp
      · have hback := run_convert_bytes_back (P := Tryz.prog) ((w.alloc (.cells C 5 (lo, hi))).drew) 26 9 5 ⟨w.heap.size, 0, none⟩ cap (s.data.toList.map cleanB) Tryz.underlying26 Tryz.underlying5 Tryz.underlying9 (fun j hj => by
          have hr : rowOf C (mixL s.data.toList s.size) := hrow
          rw [show s.size = s.data.toList.length from rfl, mix_all] at hr
          have := hr j _ (List.getElem?_eq_getElem hj)
          rw [show (⟨w.heap.size, 0, none⟩ : Addr).add j = ⟨w.heap.size, j, none⟩ by unfold Addr.add; split <;> simp_all]
          rw [World.cell?_drew, World.cell?_alloc_mark]
          exact this)
        rw [show (s.data.toList.map cleanB).length = s.size by simp] at hback
        clear hrow hz
        go_wp2
        go_ret
        first | exact ⟨rfl, .inr ⟨C, (lo, hi), rfl⟩⟩ | exact ⟨rfl, .inr ⟨C, lo, hi, rfl⟩⟩
    | succ g =>
      have hi : i < s.size := by omega
      have hiz : (i : Int) < (s.size : Int) := by omega
      obtain ⟨x, hx⟩ : ∃ x : UInt8, s[i]'hi = x := ⟨_, rfl⟩
      have hxl : Lib.Kept (s.data.toList[i]? = some x) := by rw [← hx]; exact Lib.data_getElem? s i hi
      have hx256 : (x.toNat : Int) < 256 := by have := UInt8.toNat_lt x; omega
      have hwr : wrap64 ((i : Int) + 1) = ((i : Int) + 1) := by unfold wrap64; omega
      rcases hrel with ⟨rfl, rfl, hk⟩ | ⟨C, cap, lo, hi2, rfl, rfl, hz, hrow⟩
      · have hcell := HT.out x
        by_cases hcl : ((cleanB x).toNat : Int) = (x.toNat : Int)
        · go_wp2
          go_roundg g
          case measure => omega
          case rel => exact ⟨i + 1, by omega, by first | rfl | simp, .inl ⟨rfl, rfl, (mix_same hxl (cleanB_nat hcl)).trans hk⟩⟩
        · have hrow : Lib.Kept (rowOf (bytesRow s (grownCap wr s.size 0 5)) (mixL s.data.toList i)) := by
            have hk' : mixL s.data.toList i = s.data.toList := hk
            rw [hk']
            exact rowOf_bytes s _
          generalize bytesRow s (grownCap wr s.size 0 5) = B at hcv hrow
          have hBi : B[i]? = some (.int .u8 (x.toNat : Int)) := by
            have hr : rowOf B (mixL s.data.toList i) := hrow
            exact hr i x (mix_at hxl)
          have hBs : i < B.size := (Array.getElem?_eq_some_iff.1 hBi).1
          have hc2 := HT2.out x B (B.size, B.size + 1)
          have hc1 : (wr.alloc (.cells B 5 (B.size, B.size + 1))).cell? ⟨wr.heap.size, i, none⟩ = some (.int .u8 (x.toNat : Int)) := (World.cell?_alloc_mark wr B 5 _ i).trans hBi
          have hf1 : (wr.alloc (.cells B 5 (B.size, B.size + 1))).frozen? ⟨wr.heap.size, i, none⟩ = false := (World.frozen?_alloc_mark wr B 5 _ _ i).trans (by rw [decide_eq_false (by omega)]; rfl)
          have hs1 := setCell_mark wr B 5 (B.size, B.size + 1) i (.int .u8 ((cleanB x).toNat : Int))
          have HB : Lib.Kept (B[i]? = some (.int .u8 (x.toNat : Int))) := hBi
          clear hBi hBs hk
          go_wp2
          go_roundg g
          case measure => omega
          case rel =>
            refine ⟨i + 1, by omega, by first | rfl | simp, .inr ⟨_, _, _, _, rfl, by first | rfl | exact congrArg World.drew hs1, ?_, ?_⟩⟩
            · show B.size = (B.setIfInBounds i _).size
              simp
            · have hr : rowOf B (mixL s.data.toList i) := hrow
              show rowOf _ (mixL s.data.toList (i + 1))
              rw [mix_succ hxl]
              exact rowOf_set hr (by rw [mix_len]; exact hi)
      · have hBi : C[i]? = some (.int .u8 (x.toNat : Int)) := by
          have hr : rowOf C (mixL s.data.toList i) := hrow
          exact hr i x (mix_at hxl)
        have hBs : i < C.size := (Array.getElem?_eq_some_iff.1 hBi).1
        have hz' : lo = C.size := hz
        have hc2 := HT2.out x C (lo, hi2)
        have hc1 : (w.alloc (.cells C 5 (lo, hi2))).cell? ⟨w.heap.size, i, none⟩ = some (.int .u8 (x.toNat : Int)) := (World.cell?_alloc_mark w C 5 _ i).trans hBi
        have hf1 : (w.alloc (.cells C 5 (lo, hi2))).frozen? ⟨w.heap.size, i, none⟩ = false := (World.frozen?_alloc_mark w C 5 _ _ i).trans (by rw [decide_eq_false (by omega)]; rfl)
        have hs1 := setCell_mark w C 5 (lo, hi2) i (.int .u8 ((cleanB x).toNat : Int))
        clear hBi hBs hz'
        by_cases hcl : ((cleanB x).toNat : Int) = (x.toNat : Int)
        · go_wp2
          go_roundg g
          case measure => omega
          case rel =>
            refine ⟨i + 1, by omega, by first | rfl | simp, .inr ⟨C, cap, lo, hi2, rfl, rfl, hz, ?_⟩⟩
            show rowOf C (mixL s.data.toList (i + 1))
            rw [mix_same hxl (cleanB_nat hcl)]
            exact hrow
        · go_wp2
          go_roundg g
          case measure => omega
          case rel =>
            refine ⟨i + 1, by omega, by first | rfl | simp, .inr ⟨_, _, _, _, rfl, by first | rfl | exact congrArg World.drew hs1, ?_, ?_⟩⟩
            · show lo = (C.setIfInBounds i _).size
              rw [Array.size_setIfInBounds]
              exact hz
            · have hr : rowOf C (mixL s.data.toList i) := hrow
              show rowOf _ (mixL s.data.toList (i + 1))
              rw [mix_succ hxl]
              exact rowOf_set hr (by rw [mix_len]; exact hi)
end Go.Proofs.YtpclhpncmlbccaaGreatDoor

/- A replacer of bytes: Replace, whether it has been used or not. -/
namespace Go.Proofs.YtpclhpncmlbccaaGreatDoor
open Go.Shelf Go.RowKit Go.Lib
set_option maxRecDepth 100000
set_option maxHeartbeats 4000000
structure Built (w : World) (b A : Nat) : Prop where
  hb : b < w.heap.size
  hA : A < w.heap.size
  c0 : w.cell? ⟨b, 0, none⟩ = some (.int .u32 1)
  c3 : w.cell? ⟨b, 3, none⟩ = some (bI A)
  tab : ∀ x : UInt8, w.cell? ⟨A, x.toNat, none⟩ = some (.int .u8 ((cleanB x).toNat : Int))
def ranT (T : Array Value) (b : Nat) (w : World) : World := (((((w.setCell ⟨b, 1, none⟩ (.int .i32 1)).setCell ⟨b, 3, none⟩ (bI w.heap.size)).setCell ⟨b, 4, none⟩ (.slice none 0 0)).alloc (.cells T 203)).drew.setCell ⟨b, 0, none⟩ (.int .u32 1)).setCell ⟨b, 1, none⟩ (.int .i32 0)
theorem ran_eq (b : Nat) (w : World) : ranW b w = ranT tabCells b w := rfl
theorem same0 {w : World} {a : Addr} {v v0 : Value} (h : w.cell? a = some v0) : (w.setCell a v).cell? a = some v := World.cell?_setCell_same w a v h
theorem ranT_facts {b : Nat} {w : World} (T : Array Value) (hb : b < w.heap.size) (c0 : w.cell? ⟨b, 0, none⟩ = some (.int .u32 0)) (c3 : w.cell? ⟨b, 3, none⟩ = some .nilIface) :
    (ranT T b w).heap.size = w.heap.size + 1 ∧ (ranT T b w).cell? ⟨b, 0, none⟩ = some (.int .u32 1) ∧ (ranT T b w).cell? ⟨b, 3, none⟩ = some (bI w.heap.size) ∧ ∀ k, (ranT T b w).cell? ⟨w.heap.size, k, none⟩ = T[k]? := by
  have hne : b ≠ w.heap.size := by omega
  refine ⟨by unfold ranT; simp, ?_, ?_, fun k => ?_⟩
  · unfold ranT
    rw [World.cell?_setCell_other _ _ _ _ (addr_ne (by decide))]
    refine same0 (v0 := .int .u32 0) ?_
    rw [World.cell?_drew, World.cell?_alloc_past _ _ _ (by simp; exact hb), World.cell?_setCell_other _ _ _ _ (addr_ne (by decide)), World.cell?_setCell_other _ _ _ _ (addr_ne (by decide)), World.cell?_setCell_other _ _ _ _ (addr_ne (by decide))]
    exact c0
  · unfold ranT
    rw [World.cell?_setCell_other _ _ _ _ (addr_ne (by decide)), World.cell?_setCell_other _ _ _ _ (addr_ne (by decide)), World.cell?_drew, World.cell?_alloc_past _ _ _ (by simp; exact hb), World.cell?_setCell_other _ _ _ _ (addr_ne (by decide))]
    refine same0 (v0 := .nilIface) ?_
    rw [World.cell?_setCell_other _ _ _ _ (addr_ne (by decide))]
    exact c3
  · unfold ranT
    rw [World.cell?_setCell_other _ _ _ _ (blk_ne hne), World.cell?_setCell_other _ _ _ _ (blk_ne hne), World.cell?_drew]
    exact World.cell?_alloc_at T _ _ k (by simp)
theorem tab_at (x : UInt8) : tabCells[x.toNat]? = some (.int .u8 ((cleanB x).toNat : Int)) := by
  have hx := UInt8.toNat_lt x
  unfold tabCells
  simp only [List.getElem?_toArray, List.getElem?_map, List.getElem?_range hx, Option.map_some]
  congr 2
  unfold cleanB
  by_cases h : x = 0 ∨ x = 13
  · rw [if_pos h, if_pos (by rcases h with rfl | rfl <;> decide)]
    rfl
  · rw [if_neg h, if_neg (fun h2 => h (h2.imp (fun e => UInt8.toNat_inj.1 e) (fun e => UInt8.toNat_inj.1 e)))]
theorem ran_built {b d o c : Nat} {w : World} (F : Fresh w b d o c) : Built (ranW b w) b w.heap.size := by
  obtain ⟨h1, h2, h3, h4⟩ := ranT_facts tabCells F.hb F.c0 F.c3
  have hb := F.hb
  rw [ran_eq]
  exact ⟨by omega, by omega, h2, h3, fun x => (h4 _).trans (tab_at x)⟩
theorem rp_method (n : Nat) (a : Addr) (w : World) : (method (n + 1) 204 (.pointer (some a)) "Replace").run Tryz.prog w = .ok (208, .pointer (some a)) w := by kernel_rfl
theorem rp_replace_built (b A : Nat) (s : ByteArray) (w : World) (hlen : s.size ≤ 4611686018427387904) (B : Built w b A) :
    Calls Tryz.prog 63 #[.pointer (some ⟨b, 0, none⟩), .string s] w fun e w' => e = .returned (.string ⟨(s.data.toList.map cleanB).toArray⟩) ∧ (w' = w ∨ ∃ C fz, w' = (w.alloc (.cells C 5 fz)).drew) := by
  have hmf : ∀ (fn : Fn) (first cap : Array Value) (w : World), (Instr.makeFunc fn first cap).run Tryz.prog w = .ok (.func fn first cap) w := fun _ _ _ _ => rfl
  have hme := rp_method
  have hc3 := B.c3
  go_enter Tryz.func63, Tryz.ntmps63
  go_wp2_with (first | (go_at_call 100; refine (rp_do_done b _ _ B.c0).mono ?_; rintro e w' ⟨rfl, rfl⟩) | (go_at_call 208; refine (rp_bytes A s _ hlen B.hA B.tab).mono ?_; rintro e w' ⟨rfl, hw'⟩))
  go_ret
  exact ⟨rfl, hw'⟩
theorem rp_replace_fresh (b d o c : Nat) (s : ByteArray) (w : World) (hlen : s.size ≤ 4611686018427387904) (F : Fresh w b d o c) :
    Calls Tryz.prog 63 #[.pointer (some ⟨b, 0, none⟩), .string s] w fun e w' => e = .returned (.string ⟨(s.data.toList.map cleanB).toArray⟩) ∧ (w' = ranW b w ∨ ∃ C fz, w' = ((ranW b w).alloc (.cells C 5 fz)).drew) := by
  have hmf : ∀ (fn : Fn) (first cap : Array Value) (w : World), (Instr.makeFunc fn first cap).run Tryz.prog w = .ok (.func fn first cap) w := fun _ _ _ _ => rfl
  have hme := rp_method
  have B := ran_built F
  have hc3 := B.c3
  go_enter Tryz.func63, Tryz.ntmps63
  go_wp2_with (first | (go_at_call 100; refine (rp_do_first b d o c _ F).mono ?_; rintro e w' ⟨rfl, rfl⟩) | (go_at_call 208; refine (rp_bytes _ s _ hlen B.hA B.tab).mono ?_; rintro e w' ⟨rfl, hw'⟩))
  go_ret
  exact ⟨rfl, hw'⟩
end Go.Proofs.YtpclhpncmlbccaaGreatDoor

/- A replacer of bytes as an object of the store that is not looked into; its method has a contract. -/
namespace Go.Proofs.YtpclhpncmlbccaaGreatDoor
open Go.RowKit
set_option maxRecDepth 100000
set_option maxHeartbeats 4000000
def RpQ (w : World) (u : Nat → Nat) (vs : Array Value) : Prop :=
  (vs[0]? = some (.int .u32 0) ∧ vs[1]? = some (.int .i32 0) ∧ vs[3]? = some .nilIface ∧ ∃ d o c, vs[4]? = some (.slice (some ⟨d, o, none⟩) 4 c) ∧ d < w.heap.size ∧ o + 4 ≤ u d ∧
    w.cell? ⟨d, o, none⟩ = some (.string ⟨#[0]⟩) ∧ w.cell? ⟨d, o + 1, none⟩ = some (.string ⟨#[32]⟩) ∧ w.cell? ⟨d, o + 2, none⟩ = some (.string ⟨#[13]⟩) ∧ w.cell? ⟨d, o + 3, none⟩ = some (.string ⟨#[32]⟩)) ∨
  (vs[0]? = some (.int .u32 1) ∧ ∃ A, vs[3]? = some (bI A) ∧ A < w.heap.size ∧ 256 ≤ u A ∧ ∀ x : UInt8, w.cell? ⟨A, x.toNat, none⟩ = some (.int .u8 ((cleanB x).toNat : Int)))
theorem RpQ.mono {w w' : World} {u u' : Nat → Nat} {vs : Array Value} (hx : Ext0 w u w' u') (h : RpQ w u vs) : RpQ w' u' vs := by
  rcases h with ⟨h0, h1, h3, d, o, c, h4, hd, hu, s0, s1, s2, s3⟩ | ⟨h0, A, h3, hA, hu, ht⟩
  · refine .inl ⟨h0, h1, h3, d, o, c, h4, Nat.lt_of_lt_of_le hd hx.size, Nat.le_trans hu (hx.pub d hd), ?_, ?_, ?_, ?_⟩
    · rw [hx.cell d _ hd (by omega)]; exact s0
    · rw [hx.cell d _ hd (by omega)]; exact s1
    · rw [hx.cell d _ hd (by omega)]; exact s2
    · rw [hx.cell d _ hd (by omega)]; exact s3
  · refine .inr ⟨h0, A, h3, Nat.lt_of_lt_of_le hA hx.size, Nat.le_trans hu (hx.pub A hA), fun x => ?_⟩
    rw [hx.cell A _ hA (by have := UInt8.toNat_lt x; omega)]
    exact ht x
theorem heap_set {w : World} {b : Nat} {vs : Array Value} {t : TypeId} {fz : Nat × Nat} (h : w.heap[b]? = some (.cells vs t fz)) (c i : Nat) (v : Value) : ∃ vs', (w.setCell ⟨c, i, none⟩ v).heap[b]? = some (.cells vs' t fz) ∧ vs'.size = vs.size := by
  unfold World.setCell
  simp only [Array.getElem?_modify, h]
  by_cases e : c = b
  · subst e
    exact ⟨vs.setIfInBounds i v, by simp, by simp⟩
  · exact ⟨vs, by simp [e], rfl⟩
theorem heap_set_ne {w : World} {b c : Nat} (h : c ≠ b) (i : Nat) (v : Value) : (w.setCell ⟨c, i, none⟩ v).heap[b]? = w.heap[b]? := by
  unfold World.setCell
  simp only [Array.getElem?_modify]
  simp [h]
theorem ranT_heap (T : Array Value) {b k : Nat} {w : World} (hk : k < w.heap.size) (hne : b ≠ k) : (ranT T b w).heap[k]? = w.heap[k]? := by
  unfold ranT
  rw [heap_set_ne hne, heap_set_ne hne]
  show (World.alloc _ _).heap[k]? = _
  rw [Below.heap_alloc _ _ _ (by simpa using hk), heap_set_ne hne, heap_set_ne hne, heap_set_ne hne]
theorem ranT_own (T : Array Value) {b : Nat} {w : World} {vs : Array Value} {t : TypeId} {fz : Nat × Nat} (hb : w.heap[b]? = some (.cells vs t fz)) : ∃ vs', (ranT T b w).heap[b]? = some (.cells vs' t fz) ∧ vs'.size = vs.size := by
  have hlt := blk_lt hb
  unfold ranT
  obtain ⟨v1, h1, n1⟩ := heap_set hb b 1 (.int .i32 1)
  obtain ⟨v2, h2, n2⟩ := heap_set h1 b 3 (bI w.heap.size)
  obtain ⟨v3, h3, n3⟩ := heap_set h2 b 4 (.slice none 0 0)
  have h4 : (((((w.setCell ⟨b, 1, none⟩ (.int .i32 1)).setCell ⟨b, 3, none⟩ (bI w.heap.size)).setCell ⟨b, 4, none⟩ (.slice none 0 0)).alloc (.cells T 203)).drew).heap[b]? = some (.cells v3 t fz) := by
    show (World.alloc _ _).heap[b]? = _
    rw [Below.heap_alloc _ _ _ (by simpa using hlt)]
    exact h3
  obtain ⟨v5, h5, n5⟩ := heap_set h4 b 0 (.int .u32 1)
  obtain ⟨v6, h6, n6⟩ := heap_set h5 b 1 (.int .i32 0)
  exact ⟨v6, h6, by omega⟩
structure RpG (g : G) (b : Nat) (t : TypeId) (g' : G) : Prop where
  loc : g'.loc = g.loc
  old : Old (fun k => k = b) g g'
  wf : Wf g'
  u0 : g'.u b = 0
  own : ∃ vs, g'.w.heap[b]? = some (.cells vs t (0, 0)) ∧ vs.size = 5 ∧ RpQ g'.w g'.u vs
theorem RpG.refl {g : G} {b : Nat} {t : TypeId} {vs : Array Value} (hb : g.w.heap[b]? = some (.cells vs t (0, 0))) (hn : vs.size = 5) (hu : g.u b = 0) (hw : Wf g) (hq : RpQ g.w g.u vs) : RpG g b t g :=
  ⟨rfl, Old.refl _ _, hw, hu, vs, hb, hn, hq⟩
theorem RpG.tail {g g1 : G} {b : Nat} {t : TypeId} (h : RpG g b t g1) (C : Array Value) (e : TypeId) (fz : Nat × Nat) : RpG g b t ⟨(g1.w.alloc (.cells C e fz)).drew, fun k => if k = g1.w.heap.size then 0 else g1.u k, g1.loc⟩ := by
  obtain ⟨hl, ho, hw, hu, vs, hb, hn, hq⟩ := h
  have hlt := blk_lt hb
  have hz : ∀ k, k < g1.w.heap.size → ((g1.w.alloc (.cells C e fz)).drew).heap[k]? = g1.w.heap[k]? := fun k hk => Below.heap_alloc _ _ _ hk
  have hx : Ext g1.w g1.u (g1.w.alloc (.cells C e fz)).drew (fun k => if k = g1.w.heap.size then 0 else g1.u k) := ⟨by simp, fun k hk => by
      show g1.u k ≤ if k = g1.w.heap.size then 0 else g1.u k
      rw [if_neg (by omega)]
      exact Nat.le_refl _, fun k i hk _ => by
      simp only [World.cell?]
      rw [hz k hk], fun r hr => (hz r (blk_lt hr)).trans hr⟩
  refine ⟨hl, ho.trans ⟨rfl, rfl, rfl, hx, fun k hk _ => ⟨hz k hk, by show (if k = g1.w.heap.size then 0 else g1.u k) = _; rw [if_neg (by omega)]⟩⟩, fun k hk => ?_, ?_, vs, (hz b hlt).trans hb, hn, hq.mono hx.to0⟩
  · have hk : g1.w.heap.size + 1 ≤ k := by simpa using hk
    show (if k = g1.w.heap.size then 0 else g1.u k) = 0
    rw [if_neg (by omega)]
    exact hw k (by omega)
  · show (if b = g1.w.heap.size then 0 else g1.u b) = 0
    rw [hu]
    exact ite_self 0
theorem RpG.ran {g : G} {b d o c : Nat} {t : TypeId} {vs : Array Value} (hb : g.w.heap[b]? = some (.cells vs t (0, 0))) (hn : vs.size = 5) (hu : g.u b = 0) (hw : Wf g) (F : Fresh g.w b d o c) :
    RpG g b t ⟨ranW b g.w, fun k => if k = g.w.heap.size then 256 else g.u k, g.loc⟩ := by
  have hlt := blk_lt hb
  have B := ran_built F
  obtain ⟨hsz, f0, f3, ft⟩ := ranT_facts tabCells F.hb F.c0 F.c3
  rw [← ran_eq] at hsz f0 f3 ft
  obtain ⟨vs', hb', hn'⟩ := ranT_own tabCells hb
  rw [← ran_eq] at hb'
  have hz : ∀ k, k < g.w.heap.size → k ≠ b → (ranW b g.w).heap[k]? = g.w.heap[k]? := fun k hk hne => by rw [ran_eq]; exact ranT_heap tabCells hk (Ne.symm hne)
  have hos : (ranW b g.w).os = g.w.os ∧ (ranW b g.w).tape = g.w.tape ∧ (ranW b g.w).output = g.w.output := by
    rw [ran_eq]
    generalize tabCells = T
    exact ⟨rfl, rfl, rfl⟩
  have huk : ∀ k, k < g.w.heap.size → (if k = g.w.heap.size then 256 else g.u k) = g.u k := fun k hk => if_neg (by omega)
  have hbu : (if b = g.w.heap.size then 256 else g.u b) = 0 := (huk b hlt).trans hu
  have hcell : ∀ i, i < 5 → (ranW b g.w).cell? ⟨b, i, none⟩ = vs'[i]? := fun i hi => by
    simp [World.cell?, hb']
  refine ⟨rfl, ⟨hos.1, hos.2.1, hos.2.2, ⟨by show g.w.heap.size ≤ (ranW b g.w).heap.size; omega, fun k hk => Nat.le_of_eq (huk k hk).symm, fun k i hk hi => ?_, fun r hr => ?_⟩, fun k hk hne => ⟨hz k hk hne, huk k hk⟩⟩, fun k hk => ?_, hbu, vs', hb', hn'.trans hn, .inr ⟨(hcell 0 (by omega)).symm.trans f0, g.w.heap.size, (hcell 3 (by omega)).symm.trans f3, by show g.w.heap.size < (ranW b g.w).heap.size; omega, Nat.le_of_eq (if_pos rfl).symm, B.tab⟩⟩
  · have hne : k ≠ b := by rintro rfl; omega
    simp only [World.cell?]
    rw [hz k hk hne]
  · have hne : r ≠ b := by rintro rfl; rw [hb] at hr; cases hr
    exact (hz r (blk_lt hr) hne).trans hr
  · have hk : (ranW b g.w).heap.size ≤ k := hk
    show (if k = g.w.heap.size then 256 else g.u k) = 0
    rw [if_neg (by omega)]
    exact hw k (by omega)
theorem rp_step {g : G} {b : Nat} {t : TypeId} {vs : Array Value} (s : ByteArray) (hlen : s.size ≤ 4611686018427387904) (hb : g.w.heap[b]? = some (.cells vs t (0, 0))) (hn : vs.size = 5) (hu : g.u b = 0) (hw : Wf g) (hq : RpQ g.w g.u vs) :
    Calls Tryz.prog 63 #[.pointer (some ⟨b, 0, none⟩), .string s] g.w fun e w' => e = .returned (.string ⟨(s.data.toList.map cleanB).toArray⟩) ∧ ∃ g', g'.w = w' ∧ RpG g b t g' := by
  have hlt := blk_lt hb
  have hcell : ∀ i, g.w.cell? ⟨b, i, none⟩ = vs[i]? := fun i => by simp [World.cell?, hb]
  rcases hq with ⟨h0, h1, h3, d, o, c, h4, hd, hud, s0, s1, s2, s3⟩ | ⟨h0, A, h3, hA, huA, ht⟩
  · have F : Fresh g.w b d o c := ⟨hlt, hd, by rintro rfl; omega, (hcell 0).trans h0, (hcell 1).trans h1, (hcell 3).trans h3, (hcell 4).trans h4, fun i => by simp [World.frozen?, hb], s0, s1, s2, s3⟩
    refine (rp_replace_fresh b d o c s g.w hlen F).mono ?_
    rintro e w' ⟨rfl, rfl | ⟨C, fz, rfl⟩⟩
    · exact ⟨rfl, _, rfl, RpG.ran hb hn hu hw F⟩
    · exact ⟨rfl, _, rfl, (RpG.ran hb hn hu hw F).tail C _ fz⟩
  · refine (rp_replace_built b A s g.w hlen ⟨hlt, hA, (hcell 0).trans h0, (hcell 3).trans h3, ht⟩).mono ?_
    rintro e w' ⟨rfl, rfl | ⟨C, fz, rfl⟩⟩
    · exact ⟨rfl, g, rfl, RpG.refl hb hn hu hw (.inr ⟨h0, A, h3, hA, huA, ht⟩)⟩
    · exact ⟨rfl, _, rfl, (RpG.refl hb hn hu hw (.inr ⟨h0, A, h3, hA, huA, ht⟩)).tail C _ fz⟩
theorem strings_Replacer_Replace_run (O : Nat) (s : Str) (r : Str) (hr : strings_Replacer_Replace s = some r) : RunS Tryz.prog 63 [.ptr O 0, .s s] [(O, .opq 0 5 RpQ)] (.s r) [(O, .opq 0 5 RpQ)] O [] := by
  unfold strings_Replacer_Replace at hr
  split at hr
  case isFalse => cases hr
  rename_i hlen
  cases hr
  refine ⟨⟨_, _, ⟨Tryz.func63, rfl, by kernel_rfl⟩⟩, by simp [Sto.okS, AO.okS], by simp [Sto.okS, AO.okS], fun g vs hw hg ho ha => ?_⟩
  obtain ⟨hsz, hrel⟩ := ha
  obtain ⟨vl⟩ := vs
  match vl, hsz with
  | [x, y], _ =>
    have hx := hrel 0 _ rfl
    have hy : y = .string (strB s) := rel_b (hrel 1 _ rfl)
    subst hy
    have hO := ho.obj O _ (show Sto.get [(O, AO.opq 0 5 RpQ)] O = some (.opq 0 5 RpQ) by simp [Sto.get])
    have hget : ∀ o ob, Sto.get [(O, AO.opq 0 5 RpQ)] o = some ob → o = O ∧ ob = .opq 0 5 RpQ := fun o ob h => by
      rw [Sto.get_cons] at h
      split at h
      · rename_i e; exact ⟨e.symm, (Option.some.inj h).symm⟩
      · cases h
    cases hO with
    | @opq t t1 n Q b vs' hl hb hn hu hq =>
      have hx' : x = .pointer (some ⟨b, 0, none⟩) := by
        cases hx with
        | ptr hl2 => rw [hl] at hl2; cases hl2; rfl
      subst hx'
      refine callsIn_wide.2 ((rp_step (strB s) (by rw [strB_size]; exact hlen) hb hn hu hw (hq _ _ ⟨Nat.le_refl _, fun _ _ => Nat.le_refl _, fun _ _ _ _ => rfl⟩)).mono ?_)
      rintro e w' ⟨rfl, g', rfl, G'⟩
      obtain ⟨hl', hold, hwf, hu', vs2, hb2, hn2, hq2⟩ := G'
      have hsb : SB g [(O, AO.opq 0 5 RpQ)] b := ⟨O, .opq 0 5 RpQ, by simp [Sto.get], by rw [hl]; rfl⟩
      refine ⟨g', _, rfl, fun k _ => by rw [hl'], hold.mono fun k _ e => e ▸ hsb, hwf, rfl, ?_, ?_, ?_, ?_⟩
      · have : (strB s).data.toList.map cleanB = s.map cleanB := by simp [strB]
        rw [this]
        exact .pv (.b rfl)
      · intro o ob h
        obtain ⟨rfl, rfl⟩ := hget o ob h
        exact .opq (by rw [hl']; exact hl) hb2 hn2 hu' fun w' u' hx' => hq2.mono hx'
      · intro o o' ob ob' b' h1 h2 _ _
        rw [(hget o ob h1).1, (hget o' ob' h2).1]
      · intro o ob b' h1 h2
        obtain ⟨rfl, rfl⟩ := hget o ob h1
        rw [hl', hl] at h2
        cases h2
        exact .inr hsb
end Go.Proofs.YtpclhpncmlbccaaGreatDoor

/- A replacer of bytes that is new. -/
namespace Go.Proofs.YtpclhpncmlbccaaGreatDoor
open Go.Shelf Go.RowKit Go.Lib
set_option maxRecDepth 100000
set_option maxHeartbeats 4000000
theorem rp_new_calls (d o c : Nat) (w : World) (s0 : w.cell? ⟨d, o, none⟩ = some (.string ⟨#[0]⟩)) (s1 : w.cell? ⟨d, o + 1, none⟩ = some (.string ⟨#[32]⟩)) (s2 : w.cell? ⟨d, o + 2, none⟩ = some (.string ⟨#[13]⟩)) (s3 : w.cell? ⟨d, o + 3, none⟩ = some (.string ⟨#[32]⟩)) :
    Calls Tryz.prog 61 #[.slice (some ⟨d, o, none⟩) 4 c] w fun e w' => ∃ (cap : Nat) (z : Array Value), e = .returned (.pointer (some ⟨w.heap.size + 1, 0, none⟩)) ∧
      w' = ((w.alloc (.cells (#[Value.string ⟨#[0]⟩, .string ⟨#[32]⟩, .string ⟨#[13]⟩, .string ⟨#[32]⟩] ++ z) 9)).alloc (.cells #[.int .u32 0, .int .i32 0, .int .u32 0, .nilIface, .slice (some ⟨w.heap.size, 0, none⟩) 4 cap] 152)).drew := by
  go_enter Tryz.func61, Tryz.ntmps61
  go_wp2
  go_ret
  exact ⟨_, _, rfl, rfl⟩
theorem four_cells {g : G} {v : Value} (h : Rel g (.l cS [[0], [32], [13], [32]]) v) : ∃ d o c, v = .slice (some ⟨d, o, none⟩) 4 c ∧ g.w.cell? ⟨d, o, none⟩ = some (.string ⟨#[0]⟩) ∧ g.w.cell? ⟨d, o + 1, none⟩ = some (.string ⟨#[32]⟩) ∧ g.w.cell? ⟨d, o + 2, none⟩ = some (.string ⟨#[13]⟩) ∧ g.w.cell? ⟨d, o + 3, none⟩ = some (.string ⟨#[32]⟩) := by
  cases h with
  | pv h =>
    unfold pL at h
    generalize hE : List.map cS [[0], [32], [13], [32]] = elems at h
    cases h with
    | @sl _ _ a cap size b off val hn h0 hc hz ha hu hcell h =>
      have hne : elems ≠ [] := by rw [← hE]; simp
      have hs1 : size = 1 := by
        have := hz (cS [0]) (by rw [← hE]; simp)
        simpa [cS] using this.symm
      subst hs1
      have hlen : elems.length = 4 := by rw [← hE]; rfl
      have key : ∀ (i : Nat) (s : Str), elems[i]? = some (cS s) → g.w.cell? ⟨b, off + i, none⟩ = some (.string (strB s)) := fun i s hi => by
        have hil := (List.getElem?_eq_some_iff.1 hi).1
        rw [hcell i (by omega)]
        have := h i 0 _ (.b (.string (strB s))) hi rfl
        simp only [Nat.mul_one, Nat.add_zero] at this
        rw [rel_b (g := g) (.pv this)]
      refine ⟨b, off, cap, by rw [ha hne, hlen], key 0 [0] (by rw [← hE]; rfl), key 1 [32] (by rw [← hE]; rfl), key 2 [13] (by rw [← hE]; rfl), key 3 [32] (by rw [← hE]; rfl)⟩
theorem strings_NewReplacer_run (k : Nat) : RunS Tryz.prog 61 [.l cS [[0], [32], [13], [32]]] [] (.ptr k 0) [(k, .opq 0 5 RpQ)] k [k] := by
  refine ⟨⟨_, _, ⟨Tryz.func61, rfl, by kernel_rfl⟩⟩, by simp [Sto.okS], by simp [Sto.okS, AO.okS], fun g vs hw hg ho ha => ?_⟩
  obtain ⟨hsz, hrel⟩ := ha
  obtain ⟨vl⟩ := vs
  match vl, hsz with
  | [x], _ =>
    obtain ⟨d, o, c, hx, s0, s1, s2, s3⟩ := four_cells (hrel 0 _ rfl)
    have hx : x = .slice (some ⟨d, o, none⟩) 4 c := hx
    subst hx
    refine callsIn_wide.2 ((rp_new_calls d o c g.w s0 s1 s2 s3).mono ?_)
    rintro e w' ⟨cap, z, rfl, rfl⟩
    generalize hC : #[Value.string ⟨#[0]⟩, .string ⟨#[32]⟩, .string ⟨#[13]⟩, .string ⟨#[32]⟩] ++ z = C
    generalize hV : #[Value.int .u32 0, .int .i32 0, .int .u32 0, .nilIface, .slice (some ⟨g.w.heap.size, 0, none⟩) 4 cap] = V
    have hz : ∀ q, q < g.w.heap.size → (((g.w.alloc (.cells C 9)).alloc (.cells V 152)).drew).heap[q]? = g.w.heap[q]? := fun q hq => by
      show (World.alloc _ _).heap[q]? = _
      rw [Below.heap_alloc _ _ _ (by simp; omega), Below.heap_alloc _ _ _ hq]
    have h1 : (((g.w.alloc (.cells C 9)).alloc (.cells V 152)).drew).heap[g.w.heap.size]? = some (.cells C 9 (0, 0)) := by
      show (World.alloc _ _).heap[_]? = _
      rw [Below.heap_alloc _ _ _ (by simp)]
      exact heap_alloc_new g.w _
    have h2 : (((g.w.alloc (.cells C 9)).alloc (.cells V 152)).drew).heap[g.w.heap.size + 1]? = some (.cells V 152 (0, 0)) := by
      show (World.alloc _ _).heap[_]? = _
      have := heap_alloc_new (g.w.alloc (.cells C 9)) (.cells V 152)
      simpa using this
    have hsize : (((g.w.alloc (.cells C 9)).alloc (.cells V 152)).drew).heap.size = g.w.heap.size + 2 := by simp
    generalize hW : ((g.w.alloc (.cells C 9)).alloc (.cells V 152)).drew = W at hz h1 h2 hsize
    have hos : W.os = g.w.os ∧ W.tape = g.w.tape ∧ W.output = g.w.output := by subst hW; exact ⟨rfl, rfl, rfl⟩
    have hcell : ∀ i, W.cell? ⟨g.w.heap.size, i, none⟩ = C[i]? := fun i => by simp [World.cell?, h1]
    have hget : ∀ o ob, Sto.get [(k, AO.opq 0 5 RpQ)] o = some ob → o = k ∧ ob = .opq 0 5 RpQ := fun o ob h => by
      rw [Sto.get_cons] at h
      split at h
      · rename_i e; exact ⟨e.symm, (Option.some.inj h).symm⟩
      · cases h
    have hq : RpQ W (fun q => if q = g.w.heap.size then 4 else if q = g.w.heap.size + 1 then 0 else g.u q) V := by
      subst hV hC
      refine .inl ⟨rfl, rfl, rfl, g.w.heap.size, 0, cap, rfl, by omega, Nat.le_of_eq (if_pos rfl).symm, ?_, ?_, ?_, ?_⟩
      all_goals (rw [hcell, Array.getElem?_append_left (by simp)]; rfl)
    have huk : ∀ q, q < g.w.heap.size → (if q = g.w.heap.size then 4 else if q = g.w.heap.size + 1 then 0 else g.u q) = g.u q := fun q hq => by rw [if_neg (by omega), if_neg (by omega)]
    refine ⟨⟨W, fun q => if q = g.w.heap.size then 4 else if q = g.w.heap.size + 1 then 0 else g.u q, fun q => if q = k then .blk (g.w.heap.size + 1) else g.loc q⟩, _, rfl, fun q hq => if_neg (by simpa using hq),
      ⟨hos.1, hos.2.1, hos.2.2, ⟨by show g.w.heap.size ≤ W.heap.size; omega, fun q hq => Nat.le_of_eq (huk q hq).symm, fun q i hq _ => by simp only [World.cell?]; rw [hz q hq], fun r hr => (hz r (blk_lt hr)).trans hr⟩, fun q hq _ => ⟨hz q hq, huk q hq⟩⟩, fun q hq => ?_, rfl, .ptr (if_pos rfl), ?_, ?_, ?_⟩
    · have hq : W.heap.size ≤ q := hq
      show (if q = g.w.heap.size then 4 else if q = g.w.heap.size + 1 then 0 else g.u q) = 0
      rw [if_neg (by omega), if_neg (by omega)]
      exact hw q (by omega)
    · intro o ob h
      obtain ⟨rfl, rfl⟩ := hget o ob h
      refine .opq (if_pos rfl) h2 (by subst hV; rfl) ?_ fun w' u' hx' => hq.mono hx'
      show (if g.w.heap.size + 1 = g.w.heap.size then 4 else if g.w.heap.size + 1 = g.w.heap.size + 1 then 0 else g.u _) = 0
      rw [if_neg (by omega), if_pos rfl]
    · intro o o' ob ob' b' h1 h2 _ _
      rw [(hget o ob h1).1, (hget o' ob' h2).1]
    · intro o ob b' h1 h2
      obtain ⟨rfl, rfl⟩ := hget o ob h1
      have h2 : AO.own (.opq 0 5 RpQ) (if o = o then .blk (g.w.heap.size + 1) else g.loc o) b' := h2
      rw [if_pos rfl] at h2
      have h2 : some (g.w.heap.size + 1) = some b' := h2
      cases h2
      exact .inl (by omega)
end Go.Proofs.YtpclhpncmlbccaaGreatDoor

/- Library functions compute what their Lean functions do: strings.Trim at a set of ASCII characters. -/
namespace Go.Proofs.YtpclhpncmlbccaaGreatDoor
open Go.RowKit
set_option maxRecDepth 100000
theorem str_argTm {g : G} {s : Str} {v : Value} (h : Rel g (.s s) v) : v = .string (strB s) := rel_b h
theorem old_belowTm {g : G} {w' : World} (h : Below g.w.heap.size g.w w') : Old (fun _ => False) g ⟨w', g.u, g.loc⟩ :=
  ⟨h.os, h.tape, h.output, ⟨h.size, fun _ _ => Nat.le_refl _, fun k i hk _ => by simp only [World.cell?]; rw [h.block k hk], fun r hr => (h.block r (blk_lt hr)).trans hr⟩, fun k hk _ => ⟨h.block k hk, rfl⟩⟩
theorem strings_Trim_run (s t : Str) (r : Str) (hr : strings_Trim s t = some r) : Run Tryz.prog 62 [.s s, .s t] (.s r) := by
  unfold strings_Trim at hr
  split at hr
  case isFalse => cases hr
  rename_i hc
  obtain ⟨h1, h2, h3⟩ := hc
  cases hr
  refine ⟨⟨_, _, ⟨Tryz.func62, rfl, by kernel_rfl⟩⟩, fun g vs hw hg ha => ?_⟩
  obtain ⟨hsz, hrel⟩ := ha
  obtain ⟨l⟩ := vs
  match l, hsz with
  | [x, y], _ =>
    obtain rfl := str_argTm (hrel 0 _ rfl)
    obtain rfl := str_argTm (hrel 1 _ rfl)
    have h116 : (Tryz.prog.info? 155).map (fun i => (i.zero, i.size)) = some (some (.agg (Array.replicate 256 (.bool false))), 256) := by kernel_rfl
    refine callsIn_wide.2 ((Any.strings_Trim_laid Tryz.lays160 h116 (strB s) (strB t) g.w (by rw [strB_size]; exact h1) (by rw [strB_size]; exact h2) (ascii_of_all (by simpa [asciiT, strB] using h3))).mono ?_)
    rintro e w' ⟨rfl, hb⟩
    refine ⟨⟨w', g.u, g.loc⟩, _, rfl, (by intros; rfl), old_belowTm hb, fun k hk => hw k (Nat.le_trans hb.size hk), rfl, ?_⟩
    rw [show (strB s).data.toList = s by simp [strB], show (strB t).data.toList = t by simp [strB]]
    exact .pv (.b rfl)
end Go.Proofs.YtpclhpncmlbccaaGreatDoor

/- Library functions compute what their Lean functions do: strings.TrimRight at a set of ASCII characters. -/
namespace Go.Proofs.YtpclhpncmlbccaaGreatDoor
open Go.RowKit
set_option maxRecDepth 100000
theorem str_argTr {g : G} {s : Str} {v : Value} (h : Rel g (.s s) v) : v = .string (strB s) := rel_b h
theorem old_belowTr {g : G} {w' : World} (h : Below g.w.heap.size g.w w') : Old (fun _ => False) g ⟨w', g.u, g.loc⟩ :=
  ⟨h.os, h.tape, h.output, ⟨h.size, fun _ _ => Nat.le_refl _, fun k i hk _ => by simp only [World.cell?]; rw [h.block k hk], fun r hr => (h.block r (blk_lt hr)).trans hr⟩, fun k hk _ => ⟨h.block k hk, rfl⟩⟩
theorem strings_TrimRight_run (s t : Str) (r : Str) (hr : strings_TrimRight s t = some r) : Run Tryz.prog 91 [.s s, .s t] (.s r) := by
  unfold strings_TrimRight at hr
  split at hr
  case isFalse => cases hr
  rename_i hc
  obtain ⟨h1, h2, h3⟩ := hc
  cases hr
  refine ⟨⟨_, _, ⟨Tryz.func91, rfl, by kernel_rfl⟩⟩, fun g vs hw hg ha => ?_⟩
  obtain ⟨hsz, hrel⟩ := ha
  obtain ⟨l⟩ := vs
  match l, hsz with
  | [x, y], _ =>
    obtain rfl := str_argTr (hrel 0 _ rfl)
    obtain rfl := str_argTr (hrel 1 _ rfl)
    have h116 : (Tryz.prog.info? 155).map (fun i => (i.zero, i.size)) = some (some (.agg (Array.replicate 256 (.bool false))), 256) := by kernel_rfl
    refine callsIn_wide.2 ((Any.strings_TrimRight_laid Tryz.lays162 h116 (strB s) (strB t) g.w (by rw [strB_size]; exact h1) (by rw [strB_size]; exact h2) (ascii_of_all (by simpa [asciiT, strB] using h3))).mono ?_)
    rintro e w' ⟨rfl, hb⟩
    refine ⟨⟨w', g.u, g.loc⟩, _, rfl, (by intros; rfl), old_belowTr hb, fun k hk => hw k (Nat.le_trans hb.size hk), rfl, ?_⟩
    rw [show (strB s).data.toList = s by simp [strB], show (strB t).data.toList = t by simp [strB]]
    exact .pv (.b rfl)
end Go.Proofs.YtpclhpncmlbccaaGreatDoor

namespace Go.Proofs.YtpclhpncmlbccaaGreatDoor
open Go.RowKit
set_option maxRecDepth 100000
set_option maxHeartbeats 40000000
set_option linter.unusedVariables false
theorem header_begins_run (a0 : Str) (r : TField × Bool) (hr : header_begins a0 = some r) : Run Tryz.prog 60 [.s a0] (.tup [.agg [.s r.1.Name, .s r.1.Value], .bo r.2]) := by
 unfold header_begins at hr
 refine rf (fn := Tryz.f60) ⟨Tryz.func60, rfl, by kernel_rfl⟩ rfl (fun _ => rfl) fun g0 hg => ?_
 refine rn tk 9 rfl ?_
 obtain ⟨v1, h2, hr⟩ := bind_some hr
 refine cl (strings_Cut_run _ _ _ h2) rfl rfl ?_
 refine rn tk 12 rfl ?_
 obtain ⟨v3, h4, hr⟩ := bind_some hr
 refine cl (strings_TrimRight_run _ _ _ h4) rfl rfl ?_
 refine rn tk 3 rfl ?_
 refine jb hr (fun j5 => [(2, .ptr 2 0), (3, .bo j5)]) (fun j5 => [(2, .cells [.s v3, .s v1.2.1])]) (fun j5 hr => ?_) (fun j5 hr => ?_)
 ·
  refine rn tk 6 rfl ?_
  refine bs 19 hr rfl (fun c6 hr => ?_) (fun c6 hr => ?_)
  ·
   refine rn tk 1 rfl ?_
   obtain ⟨v7, h8, hr⟩ := bind_some hr
   refine ug rfl rfl rfl ?_
   refine cl (header_name_run _ _ h8) rfl rfl ?_
   refine rn tk 4 rfl ?_
   cases hr
   exact jn _ rfl rfl rfl
  ·
   refine rn tk 6 rfl ?_
   cases hr
   exact jn _ rfl rfl rfl
 ·
  refine rn tk 1 rfl ?_
  cases hr
  exact kr tk (.inr rfl) rfl rfl
end Go.Proofs.YtpclhpncmlbccaaGreatDoor

/- Bytes, where they lie, as the library functions see them. -/
namespace Go.Proofs.YtpclhpncmlbccaaGreatDoor
open Go.RowKit
set_option maxRecDepth 100000
def nums (l : List UInt8) : List Int := l.map fun c => (c.toNat : Int)
theorem nums_bytes (l : List UInt8) : Lib.bytesOf (nums l) = l := by simp [Lib.bytesOf, nums, Function.comp_def]
theorem nums_getD (l : List UInt8) (i : Nat) (h : i < l.length) : (nums l).getD i 0 = (l[i].toNat : Int) := by simp [nums, h]
/-- bytes, where they lie -/
theorem bytes_cells {g : G} {l : List UInt8} {v : Value} (h : Rel g (.l cU l) v) : ∃ ad cap, v = .slice ad l.length cap ∧ l.length ≤ cap ∧ (l ≠ [] → ∃ b off, ad = some ⟨b, off, none⟩ ∧ ∀ i, i < l.length → g.w.cell? ((⟨b, off, none⟩ : Addr).add i) = some (.int .u8 ((nums l).getD i 0))) := by
  cases h with
  | pv h =>
    generalize hE : l.map cU = elems at h
    have hEl : elems.length = l.length := by rw [← hE]; simp
    unfold pL at h
    rw [hE] at h
    cases h with
    | @sl _ _ a cap size b off val hn h0 hc hz ha hu hcell h =>
      refine ⟨a, cap, by rw [hEl], by omega, fun hne => ⟨b, off, ha (by rw [← hE]; simpa using hne), fun i hi => ?_⟩⟩
      have hget : elems[i]? = some (cU l[i]) := by rw [← hE]; simp [hi]
      have hs1 : size = 1 := by
        have := hz _ (List.mem_of_getElem? hget)
        simpa [cU] using this.symm
      subst hs1
      rw [addr_add, hcell i (by omega), nums_getD l i hi]
      have := h i 0 _ (.b (.int .u8 (l[i].toNat : Int))) hget rfl
      simp only [Nat.mul_one, Nat.add_zero] at this
      have e := rel_b (g := g) (.pv this)
      rw [e]
end Go.Proofs.YtpclhpncmlbccaaGreatDoor

/- Library functions compute what their Lean functions do: bytes.IndexByte. -/
namespace Go.Proofs.YtpclhpncmlbccaaGreatDoor
open Go.RowKit
set_option maxRecDepth 100000
theorem bytes_none {g : G} {l : List UInt8} {v : Value} (h : Rel g (.l cU l) v) : ∀ n cap, v = .slice none n cap → n = 0 ∧ cap = 0 := by
  intro n cap e
  cases h with
  | pv h =>
    unfold pL at h
    generalize l.map cU = elems at h
    cases h with
    | @sl _ _ a cap2 size b off val hn h0 hc hz ha hu hcell h =>
      cases e
      obtain ⟨h1, h2⟩ := h0 rfl
      exact ⟨by rw [h2]; rfl, h1⟩
theorem bytes_IndexByte_run (a : List UInt8) (c : UInt8) (r : Int) (hr : bytes_IndexByte a c = some r) : Run Tryz.prog 89 [.l cU a, .u8 c] (.i r) := by
  unfold bytes_IndexByte at hr
  cases hr
  refine ⟨⟨_, _, ⟨Tryz.func89, rfl, by kernel_rfl⟩⟩, fun g vs hw hg ha => ?_⟩
  obtain ⟨hsz, hrel⟩ := ha
  obtain ⟨l⟩ := vs
  match l, hsz with
  | [x, y], _ =>
    have h0 : Rel g (.l cU a) x := hrel 0 _ rfl
    obtain rfl : y = .int .u8 (c.toNat : Int) := rel_b (hrel 1 _ rfl)
    obtain ⟨ad, cap, rfl, hcap, hcell⟩ := bytes_cells h0
    refine callsIn_wide.2 ?_
    suffices hs : Calls Tryz.prog 89 #[.slice ad a.length cap, .int .u8 (c.toNat : Int)] g.w fun e w' => e = .returned (.int .i64 (Lib.indexByte a c)) ∧ w' = g.w by
      refine hs.mono ?_
      rintro e w' ⟨rfl, rfl⟩
      exact ⟨g, _, rfl, (by intros; rfl), Old.refl _ g, hw, rfl, .pv (.b rfl)⟩
    by_cases hs : a = []
    · subst hs
      cases ad with
      | none =>
        obtain ⟨_, rfl⟩ := bytes_none h0 _ _ rfl
        exact Tryz.bytes_IndexByte_nil _ g.w
      | some ad =>
        have := Tryz.bytes_IndexByte_at ad 0 cap [] (c.toNat : Int) g.w rfl (fun i hi => by omega)
        simpa [Lib.bytesOf] using this
    · obtain ⟨b1, o1, rfl, hc1⟩ := hcell hs
      have := Tryz.bytes_IndexByte_at ⟨b1, o1, none⟩ a.length cap (nums a) (c.toNat : Int) g.w (by simp [nums]) hc1
      rw [nums_bytes] at this
      simpa using this
end Go.Proofs.YtpclhpncmlbccaaGreatDoor

namespace Go.Proofs.YtpclhpncmlbccaaGreatDoor
open Go.RowKit
set_option maxRecDepth 100000
set_option maxHeartbeats 40000000
set_option linter.unusedVariables false
theorem bytes_Equal_run (a0 : List UInt8) (a1 : List UInt8) (r : Bool) (hr : bytes_Equal a0 a1 = some r) : Run Tryz.prog 142 [.l cU a0, .l cU a1] (.bo r) := by
  unfold bytes_Equal at hr
  refine run_of_awp (fn := Tryz.f142) ⟨Tryz.func142, rfl, by kernel_rfl⟩ rfl (fun _ => rfl) fun g0 hg => ?_
  refine awp_seq ?_
  refine awp_region ?_
  refine awpl_op rfl (opTo_q (d := 4) rfl rfl ev_assign) ?_
  refine awpl_nil ?_
  refine kthen_normal ?_
  refine awp_seq ?_
  refine awp_region ?_
  refine awpl_op rfl (opTo_q (d := 5) rfl rfl ev_move) ?_
  refine awpl_op rfl (opTo_q (d := 6) rfl rfl (ev_bytes2s rfl ty_s_uint8 ty_uint8 ty_string)) ?_
  refine awpl_op rfl (opTo_q (d := 7) rfl rfl ev_move) ?_
  refine awpl_op rfl (opTo_q (d := 8) rfl rfl (ev_bytes2s rfl ty_s_uint8 ty_uint8 ty_string)) ?_
  refine awpl_op rfl (opTo_q (d := 9) rfl rfl (ev_seql (a := a0) (b := a1) rfl rfl)) ?_
  refine awpl_op rfl (opTo_q (d := 4) rfl rfl ev_assign) ?_
  refine awpl_nil ?_
  refine kthen_normal ?_
  refine awp_ret ?_
  cases hr
  exact kret' rfl (.cons (res_tmp rfl) .nil) rfl
theorem bytes_HasSuffix_run (a0 : List UInt8) (a1 : List UInt8) (r : Bool) (hr : bytes_HasSuffix a0 a1 = some r) : Run Tryz.prog 121 [.l cU a0, .l cU a1] (.bo r) := by
  unfold bytes_HasSuffix at hr
  refine run_of_awp (fn := Tryz.f121) ⟨Tryz.func121, rfl, by kernel_rfl⟩ rfl (fun _ => rfl) fun g0 hg => ?_
  refine awp_seq ?_
  refine awp_region ?_
  refine awpl_op rfl (opTo_q (d := 4) rfl rfl ev_assign) ?_
  refine awpl_nil ?_
  refine kthen_normal ?_
  obtain ⟨j1, hx, hy⟩ := bind_some hr
  refine awp_join (fun j1 => [(4, .bo j1)]) (fun j1 => []) (fun z => j1 = z) ?_ ?_
  · have hr := hx
    clear hx hy
    refine awp_region ?_
    refine awpl_op rfl (opTo_q (d := 5) rfl rfl ev_move) ?_
    refine awpl_op rfl (opTo_q (d := 6) rfl rfl (ev_llen (f := cU) rfl ty_s_uint8.u)) ?_
    refine awpl_op rfl (opTo_q (d := 7) rfl rfl ev_move) ?_
    refine awpl_op rfl (opTo_q (d := 8) rfl rfl (ev_llen (f := cU) rfl ty_s_uint8.u)) ?_
    refine awpl_op rfl (opTo_q (d := 9) rfl rfl (ev_geq rfl rfl)) ?_
    refine awpl_op rfl (opTo_q (d := 10) rfl rfl ev_move) ?_
    refine bool_split (decide ((a1.length : Int) ≤ (a0.length : Int))) (fun c2 => ?_) (fun c2 => ?_)
    · replace hr := cond_t c2 hr
      refine awpl_yes (d := 10) rfl rfl rfl c2 (opTo_q (d := 11) rfl rfl ev_move) ?_
      refine awpl_yes (d := 10) rfl rfl rfl c2 (opTo_q (d := 12) rfl rfl ev_move) ?_
      refine awpl_yes (d := 10) rfl rfl rfl c2 (opTo_q (d := 13) rfl rfl (ev_llen (f := cU) rfl ty_s_uint8.u)) ?_
      refine awpl_yes (d := 10) rfl rfl rfl c2 (opTo_q (d := 14) rfl rfl ev_move) ?_
      refine awpl_yes (d := 10) rfl rfl rfl c2 (opTo_q (d := 15) rfl rfl (ev_llen (f := cU) rfl ty_s_uint8.u)) ?_
      refine awpl_yes (d := 10) rfl rfl rfl c2 (opTo_q (d := 16) rfl rfl (ev_sub rfl rfl)) ?_
      obtain ⟨v3, h4, hr⟩ := bind_some hr
      refine awpl_yes (d := 10) rfl rfl rfl c2 (opTo_q (d := 17) rfl rfl (ev_cutL (F := cU) rfl rfl ty_s_uint8 ty_uint8 (fun _ => rfl) h4)) ?_
      refine awpl_yes (d := 10) rfl rfl rfl c2 (opTo_q (d := 18) rfl rfl ev_move) ?_
      obtain ⟨v5, h6, hr⟩ := bind_some hr
      refine awpl_yes (d := 10) rfl rfl rfl c2 (opTo_call (k := 19) (bytes_Equal_run v3 a1 v5 h6) rfl rfl) ?_
      refine awpl_op rfl (opTo_q (d := 20) rfl rfl (ev_pick_t rfl c2)) ?_
      refine awpl_op rfl (opTo_q (d := 4) rfl rfl ev_assign) ?_
      refine awpl_nil ?_
      cases hr
      exact joinK_normal _ rfl (frLe_cons rfl frLe_nil) stoLe_nil
    · replace hr := cond_f c2 hr
      refine awpl_no (d := 10) rfl rfl rfl c2 ?_
      refine awpl_no (d := 10) rfl rfl rfl c2 ?_
      refine awpl_no (d := 10) rfl rfl rfl c2 ?_
      refine awpl_no (d := 10) rfl rfl rfl c2 ?_
      refine awpl_no (d := 10) rfl rfl rfl c2 ?_
      refine awpl_no (d := 10) rfl rfl rfl c2 ?_
      refine awpl_no (d := 10) rfl rfl rfl c2 ?_
      refine awpl_no (d := 10) rfl rfl rfl c2 ?_
      refine awpl_no (d := 10) rfl rfl rfl c2 ?_
      refine awpl_op rfl (opTo_q (d := 20) rfl rfl (ev_pick_f rfl c2)) ?_
      refine awpl_op rfl (opTo_q (d := 4) rfl rfl ev_assign) ?_
      refine awpl_nil ?_
      cases hr
      exact joinK_normal _ rfl (frLe_cons rfl frLe_nil) stoLe_nil
  · rintro _ rfl
    have hr := hy
    clear hx hy
    refine awp_ret ?_
    cases hr
    exact kret' rfl (.cons (res_tmp rfl) .nil) rfl
theorem bytes_TrimSuffix_run (a0 : List UInt8) (a1 : List UInt8) (r : List UInt8) (hr : bytes_TrimSuffix a0 a1 = some r) : Run Tryz.prog 90 [.l cU a0, .l cU a1] (.l cU r) := by
 unfold bytes_TrimSuffix at hr
 refine rf (fn := Tryz.f90) ⟨Tryz.func90, rfl, by kernel_rfl⟩ rfl (fun _ => rfl) fun g0 hg => ?_
 refine rn tk 10 rfl ?_
 obtain ⟨v1, h2, hr⟩ := bind_some hr
 refine cl (bytes_HasSuffix_run _ _ _ h2) rfl rfl ?_
 refine rn tk 2 rfl ?_
 refine ac 7 hr rfl (fun c3 hr => ?_) (fun c3 hr => ?_)
 ·
  refine rn tk 4 rfl ?_
  refine wn tk rfl rfl rfl ?_
  refine rn tk 1 rfl ?_
  refine wn tk rfl rfl rfl ?_
  refine rn tk 1 rfl ?_
  obtain ⟨v4, h5, hr⟩ := bind_some hr
  refine wlH tk h5 rfl rfl rfl (fun _ => rfl) rfl ?_
  refine rn tk 5 rfl ?_
  cases hr
  exact kr tk (.inr rfl) rfl rfl
 ·
  refine rn tk 9 rfl ?_
  cases hr
  exact kr tk (.inr rfl) rfl rfl
theorem header_line_run (a0 : List UInt8) (r : Str × Int) (hr : header_line a0 = some r) : Run Tryz.prog 58 [.l cU a0] (.tup [.s r.1, .i r.2]) := by
 unfold header_line at hr
 refine rf (fn := Tryz.f58) ⟨Tryz.func58, rfl, by kernel_rfl⟩ rfl (fun _ => rfl) fun g0 hg => ?_
 refine rn tk 9 rfl ?_
 obtain ⟨v1, h2, hr⟩ := bind_some hr
 refine cl (bytes_IndexByte_run _ _ _ h2) rfl rfl ?_
 refine rn tk 10 rfl ?_
 refine ac 8 hr rfl (fun c3 hr => ?_) (fun c3 hr => ?_)
 ·
  refine rn tk 3 rfl ?_
  refine wb tk rfl rfl rfl ?_
  refine rn tk 1 rfl ?_
  refine wn tk rfl rfl rfl ?_
  refine rn tk 6 rfl ?_
  cases hr
  exact kr tk (.inr rfl) rfl rfl
 ·
  refine rn tk 6 rfl ?_
  obtain ⟨v4, h5, hr⟩ := bind_some hr
  refine wlH tk h5 rfl rfl rfl (fun _ => rfl) rfl ?_
  refine awpl_litconv rfl (opGN_lit (F := cU) (l := ([(13 : UInt8)] : List UInt8)) ty_s_uint8 ty_uint8 rfl (fun _ => rfl) rfl rfl) ty_s_uint8 ty_uint8 (wanted_plain rfl) (wanted_plain rfl) rfl (hO ?_)
  obtain ⟨v6, h7, hr⟩ := bind_some hr
  refine cl (bytes_TrimSuffix_run _ _ _ h7) rfl rfl ?_
  refine wb tk rfl rfl rfl ?_
  refine rn tk 7 rfl ?_
  cases hr
  exact kr tk (.inr rfl) rfl rfl
theorem header_Read_run (a0 : List UInt8) (r : (List TField) × Int × TFault) (hr : header_Read a0 = some r) : Run Tryz.prog 27 [.l cU a0] (.tup [.l TField.pc r.1, .i r.2.1, .agg [.i r.2.2.Code, .i r.2.2.Index]]) := by
 unfold header_Read at hr
 refine rf (fn := Tryz.f27) ⟨Tryz.func27, rfl, by kernel_rfl⟩ rfl (fun _ => rfl) fun g0 hg => ?_
 refine rn tk 11 rfl ?_
 refine wn tk rfl rfl rfl ?_
 refine rn tk 3 rfl ?_
 refine ac 16 hr rfl (fun c1 hr => ?_) (fun c1 hr => ?_)
 ·
  refine rn tk 2 rfl ?_
  obtain ⟨v2, h3, hr⟩ := bind_some hr
  refine cl (basic_Fault_run _ _ _ h3) rfl rfl ?_
  refine rn tk 7 rfl ?_
  cases hr
  exact kr tk (.inr rfl) rfl rfl
 ·
  refine rn tk 5 rfl ?_
  refine awpl_adoptM 1005 (d := 5) 63 2 rfl rfl rfl (hO ?_)
  refine rn tk 9 rfl ?_
  refine al1 hr (fun s4 => [(0, .l cU a0), (4, .ptr 4 0), (5, .hs 1005 0), (6, .i s4.1)]) (fun s4 => [(1005, .row 63 true 2 (List.map TField.pc s4.2)), (4, .cells [.i 0, .i 0])]) (.exit 0) (fun b5 => [(4, .ptr 4 0), (5, .hs 1005 0), (6, .i b5.1)]) (fun b5 => [(1005, .row 63 true 2 (List.map TField.pc b5.2)), (4, .cells [.i 0, .i 0])]) rfl rfl (fun s4 x6 hr => ?_) (fun b5 hr => ?_)
  ·
   unfold header_Read_l1 at hr
   refine rn tk 5 rfl ?_
   refine wn tk rfl rfl rfl ?_
   refine rn tk 3 rfl ?_
   refine ac 21 hr rfl (fun c7 hr => ?_) (fun c7 hr => ?_)
   ·
    refine rn tk 7 rfl ?_
    obtain ⟨v8, h9, hr⟩ := bind_some hr
    refine wlL tk h9 rfl rfl rfl (fun _ => rfl) rfl ?_
    obtain ⟨v10, h11, hr⟩ := bind_some hr
    refine cl (header_line_run _ _ h11) rfl rfl ?_
    refine rn tk 14 rfl ?_
    refine ac 30 hr rfl (fun c12 hr => ?_) (fun c12 hr => ?_)
    ·
     refine rn tk 11 rfl ?_
     cases hr
     exact ato rfl rfl rfl rfl
    ·
     refine rn tk 3 rfl ?_
     refine jb hr (fun j13 => [(0, .l cU a0), (4, .ptr 4 0), (5, .hs 1005 0), (6, .i s4.1), (7, .s v10.1), (8, .i v10.2), (41, .bo j13)]) (fun j13 => [(1005, .row 63 true 2 (List.map TField.pc s4.2)), (4, .cells [.i 0, .i 0])]) (fun j13 hr => ?_) (fun j13 hr => ?_)
     ·
      refine rn tk 2 rfl ?_
      obtain ⟨v14, h15, hr⟩ := bind_some hr
      refine ws tk h15 rfl rfl rfl rfl ?_
      obtain ⟨v16, h17, hr⟩ := bind_some hr
      refine cl (basic_Blank_run _ _ h17) rfl rfl ?_
      refine rn tk 1 rfl ?_
      refine bs 37 hr rfl (fun c18 hr => ?_) (fun c18 hr => ?_)
      ·
       refine rn tk 1 rfl ?_
       refine ug rfl rfl rfl ?_
       refine wnh tk rfl rfl rfl rfl ?_
       refine rn tk 3 rfl ?_
       cases hr
       exact jn _ rfl rfl rfl
      ·
       refine rn tk 5 rfl ?_
       cases hr
       exact jn _ rfl rfl rfl
     ·
      refine ac 41 hr rfl (fun c19 hr => ?_) (fun c19 hr => ?_)
      ·
       refine rn tk 4 rfl ?_
       refine wnh tk rfl rfl rfl rfl ?_
       refine rn tk 1 rfl ?_
       obtain ⟨v20, h21, hr⟩ := bind_some hr
       refine wih tk h21 rfl rfl rfl rfl rfl ?_
       refine rn tk 1 rfl ?_
       obtain ⟨v22, h23, hr⟩ := bind_some hr
       refine wq (ev_hload (F := TField.pc) (l := s4.2) (n := ((w64 ((s4.2.length : Int) - 1)))) (j := 1) rfl rfl ty_string rfl h23 rfl) rfl rfl rfl ?_
       refine rn tk 1 rfl ?_
       obtain ⟨v24, h25, hr⟩ := bind_some hr
       refine wc h25 rfl rfl rfl ?_
       obtain ⟨v26, h27, hr⟩ := bind_some hr
       refine wih tk h27 rfl rfl rfl rfl rfl ?_
       refine rn tk 1 rfl ?_
       obtain ⟨v28, h29, hr⟩ := bind_some hr
       refine wo (opTo_hstore (F := TField.pc) (l := s4.2) (n := ((w64 ((s4.2.length : Int) - 1)))) (j := 1) (v := v28) (v' := ((TField.mk v28.Name v24))) (pcs := [pS v24]) rfl rfl rfl ty_string rfl h29 rfl rfl) rfl ?_
       refine rn tk 13 rfl ?_
       cases hr
       exact atc rfl rfl
      ·
       refine rn tk 5 rfl ?_
       obtain ⟨v30, h31, hr⟩ := bind_some hr
       refine cl (header_begins_run _ _ h31) rfl rfl ?_
       refine rn tk 15 rfl ?_
       refine ac 62 hr rfl (fun c32 hr => ?_) (fun c32 hr => ?_)
       ·
        refine rn tk 3 rfl ?_
        cases hr
        exact ato rfl rfl rfl rfl
       ·
        refine rn tk 6 rfl ?_
        refine wz TField.pc ([v30.1] : List TField) tk rfl rfl (fun _ => rfl) rfl rfl rfl ?_
        obtain ⟨v33, h34, hr⟩ := bind_some hr
        refine wa tk h34 rfl rfl rfl rfl (fun _ => rfl) rfl rfl ?_
        refine rn tk 10 rfl ?_
        cases hr
        exact atc rfl rfl
   ·
    refine rn tk 2 rfl ?_
    cases hr
    exact ato rfl rfl rfl rfl
  ·
   refine rn tk 6 rfl ?_
   refine wnh tk rfl rfl rfl rfl ?_
   refine rn tk 3 rfl ?_
   refine ac 72 hr rfl (fun c35 hr => ?_) (fun c35 hr => ?_)
   ·
    refine rn tk 2 rfl ?_
    obtain ⟨v36, h37, hr⟩ := bind_some hr
    refine cl (basic_Fault_run _ _ _ h37) rfl rfl ?_
    refine rn tk 7 rfl ?_
    cases hr
    exact kr tk (.inr rfl) rfl rfl
   ·
    refine rn tk 4 rfl ?_
    refine wz cS ([([0] : Str), ([32] : Str), ([13] : Str), ([32] : Str)] : List Str) tk rfl rfl (fun _ => rfl) rfl rfl rfl ?_
    refine wo (opTo_callS (k := 75) (strings_NewReplacer_run 7075) rfl rfl stoLe_nil) rfl ?_
    refine rn tk 7 rfl ?_
    refine wnh tk rfl rfl rfl rfl ?_
    refine rn tk 4 rfl ?_
    refine al2 hr (fun s38 => [(4, .ptr 4 0), (5, .hs 1005 0), (6, .i b5.1), (11, .ptr 7075 0), (77, .i ((b5.2.length : Int))), (78, .i s38.1)]) (fun s38 => [(7075, .opq 0 5 RpQ), (1005, .row 63 true 2 (List.map TField.pc s38.2)), (4, .cells [.i 0, .i 0])]) (.exit 2) (fun b39 => [(4, .ptr 4 0), (5, .hs 1005 0), (6, .i b5.1)]) (fun b39 => [(1005, .row 63 true 2 (List.map TField.pc b39)), (4, .cells [.i 0, .i 0])]) .ret (fun b40 => [(2, .l TField.pc b40.1), (3, .i b40.2.1), (4, .ptr 4 0)]) (fun b40 => [(4, .cells [.i b40.2.2.Code, .i b40.2.2.Index])]) rfl rfl (fun s38 x42 hr => ?_) (fun b39 hr => ?_) (fun b40 hr => ?_)
    ·
     unfold header_Read_l2 at hr
     refine rn tk 6 rfl ?_
     refine ac 79 hr rfl (fun c43 hr => ?_) (fun c43 hr => ?_)
     ·
      refine rn tk 15 rfl ?_
      obtain ⟨v44, h45, hr⟩ := bind_some hr
      refine wih tk h45 rfl rfl rfl rfl rfl ?_
      refine rn tk 1 rfl ?_
      obtain ⟨v46, h47, hr⟩ := bind_some hr
      refine wq (ev_hload (F := TField.pc) (l := s38.2) (n := s38.1) (j := 1) rfl rfl ty_string rfl h47 rfl) rfl rfl rfl ?_
      obtain ⟨v48, h49, hr⟩ := bind_some hr
      refine wo (opTo_callS (k := 87) (strings_Replacer_Replace_run 7075 v46.Value v48 h49) rfl rfl (stoLe_cons rfl stoLe_nil)) rfl ?_
      obtain ⟨v50, h51, hr⟩ := bind_some hr
      refine cl (strings_Trim_run _ _ _ h51) rfl rfl ?_
      refine rn tk 11 rfl ?_
      refine ac 91 hr rfl (fun c52 hr => ?_) (fun c52 hr => ?_)
      ·
       refine rn tk 3 rfl ?_
       obtain ⟨v53, h54, hr⟩ := bind_some hr
       refine cl (basic_Fault_run _ _ _ h54) rfl rfl ?_
       refine rn tk 9 rfl ?_
       cases hr
       exact ato rfl rfl rfl rfl
      ·
       refine rn tk 6 rfl ?_
       obtain ⟨v55, h56, hr⟩ := bind_some hr
       refine wih tk h56 rfl rfl rfl rfl rfl ?_
       refine rn tk 1 rfl ?_
       obtain ⟨v57, h58, hr⟩ := bind_some hr
       refine wo (opTo_hstore (F := TField.pc) (l := s38.2) (n := s38.1) (j := 1) (v := v57) (v' := ((TField.mk v57.Name v50))) (pcs := [pS v50]) rfl rfl rfl ty_string rfl h58 rfl rfl) rfl ?_
       refine rn tk 7 rfl ?_
       cases hr
       exact atc rfl rfl
     ·
      refine rn tk 2 rfl ?_
      cases hr
      exact ato rfl rfl rfl rfl
    ·
     refine rn tk 6 rfl ?_
     obtain ⟨v59, h60, hr⟩ := bind_some hr
     refine cl (basic_None_run _ h60) rfl rfl ?_
     refine rn tk 5 rfl ?_
     refine awp_unmu 1005 rfl (hC ?_)
     refine awp_pub (d := 2) (F := TField.pc) (l := b39) rfl rfl (hC ?_)
     refine rn tk 1 rfl ?_
     cases hr
     exact kr tk (.inr rfl) rfl rfl
    ·
     refine rn tk 2 rfl ?_
     cases hr
     exact kr tk (.inr rfl) rfl rfl
theorem message_lines_run (a0 : List UInt8) (r : List UInt8) (hr : message_lines a0 = some r) : Run Tryz.prog 28 [.l cU a0] (.l cU r) := by
 unfold message_lines at hr
 refine rf (fn := Tryz.f28) ⟨Tryz.func28, rfl, by kernel_rfl⟩ rfl (fun _ => rfl) fun g0 hg => ?_
 refine rn tk 8 rfl ?_
 refine awpl_adopt 1003 (d := 3) 5 1 rfl rfl rfl (hO ?_)
 refine rn tk 9 rfl ?_
 refine al1 hr (fun s1 => [(0, .l cU a0), (3, .hs 1003 0), (4, .i s1.1)]) (fun s1 => [(1003, .row 5 false 1 (List.map cU s1.2))]) (.exit 0) (fun b2 => [(3, .hs 1003 0)]) (fun b2 => [(1003, .row 5 false 1 (List.map cU b2))]) rfl rfl (fun s1 x3 hr => ?_) (fun b2 hr => ?_)
 ·
  unfold message_lines_l1 at hr
  refine rn tk 5 rfl ?_
  refine wn tk rfl rfl rfl ?_
  refine rn tk 3 rfl ?_
  refine ac 8 hr rfl (fun c4 hr => ?_) (fun c4 hr => ?_)
  ·
   refine rn tk 2 rfl ?_
   refine jb hr (fun j5 => [(0, .l cU a0), (3, .hs 1003 0), (4, .i j5.1)]) (fun j5 => [(1003, .row 5 false 1 (List.map cU j5.2))]) (fun j5 hr => ?_) (fun j5 hr => ?_)
   ·
    refine rn tk 2 rfl ?_
    refine jb hr (fun j6 => [(0, .l cU a0), (3, .hs 1003 0), (4, .i s1.1), (18, .bo j6)]) (fun j6 => [(1003, .row 5 false 1 (List.map cU s1.2))]) (fun j6 hr => ?_) (fun j6 hr => ?_)
    ·
     refine rn tk 3 rfl ?_
     obtain ⟨v7, h8, hr⟩ := bind_some hr
     refine wi tk h8 rfl rfl rfl rfl rfl ?_
     refine rn tk 3 rfl ?_
     refine bs 24 hr rfl (fun c9 hr => ?_) (fun c9 hr => ?_)
     ·
      refine rn tk 3 rfl ?_
      refine ug rfl rfl rfl ?_
      refine wn tk rfl rfl rfl ?_
      refine rn tk 3 rfl ?_
      refine bs 31 hr rfl (fun c10 hr => ?_) (fun c10 hr => ?_)
      ·
       refine rn tk 3 rfl ?_
       obtain ⟨v11, h12, hr⟩ := bind_some hr
       refine ug rfl rfl rfl ?_
       refine wi tk h12 rfl rfl rfl rfl rfl ?_
       refine rn tk 5 rfl ?_
       cases hr
       exact jn _ rfl rfl rfl
      ·
       refine rn tk 9 rfl ?_
       cases hr
       exact jn _ rfl rfl rfl
     ·
      refine rn tk 16 rfl ?_
      cases hr
      exact jn _ rfl rfl rfl
    ·
     refine ac 18 hr rfl (fun c13 hr => ?_) (fun c13 hr => ?_)
     ·
      refine rn tk 9 rfl ?_
      refine wz cU ([(13 : UInt8), (10 : UInt8)] : List UInt8) tk rfl rfl (fun _ => rfl) rfl rfl rfl ?_
      obtain ⟨v14, h15, hr⟩ := bind_some hr
      refine wa tk h15 rfl rfl rfl rfl (fun _ => rfl) rfl rfl ?_
      refine rn tk 4 rfl ?_
      cases hr
      exact jn _ rfl rfl rfl
     ·
      refine jb hr (fun j16 => [(0, .l cU a0), (3, .hs 1003 0), (4, .i s1.1), (44, .bo j16)]) (fun j16 => [(1003, .row 5 false 1 (List.map cU s1.2))]) (fun j16 hr => ?_) (fun j16 hr => ?_)
      ·
       refine rn tk 3 rfl ?_
       obtain ⟨v17, h18, hr⟩ := bind_some hr
       refine wi tk h18 rfl rfl rfl rfl rfl ?_
       refine rn tk 3 rfl ?_
       refine bs 50 hr rfl (fun c19 hr => ?_) (fun c19 hr => ?_)
       ·
        refine rn tk 8 rfl ?_
        cases hr
        exact jn _ rfl rfl rfl
       ·
        refine rn tk 2 rfl ?_
        obtain ⟨v20, h21, hr⟩ := bind_some hr
        refine ug rfl rfl rfl ?_
        refine wi tk h21 rfl rfl rfl rfl rfl ?_
        refine rn tk 5 rfl ?_
        cases hr
        exact jn _ rfl rfl rfl
      ·
       refine ac 44 hr rfl (fun c22 hr => ?_) (fun c22 hr => ?_)
       ·
        refine rn tk 2 rfl ?_
        refine wz cU ([(13 : UInt8), (10 : UInt8)] : List UInt8) tk rfl rfl (fun _ => rfl) rfl rfl rfl ?_
        obtain ⟨v23, h24, hr⟩ := bind_some hr
        refine wa tk h24 rfl rfl rfl rfl (fun _ => rfl) rfl rfl ?_
        refine rn tk 4 rfl ?_
        cases hr
        exact jn _ rfl rfl rfl
       ·
        refine rn tk 4 rfl ?_
        obtain ⟨v25, h26, hr⟩ := bind_some hr
        refine wi tk h26 rfl rfl rfl rfl rfl ?_
        refine rn tk 1 rfl ?_
        refine wz cU ([v25] : List UInt8) tk rfl rfl (fun _ => rfl) rfl rfl rfl ?_
        obtain ⟨v27, h28, hr⟩ := bind_some hr
        refine wa tk h28 rfl rfl rfl rfl (fun _ => rfl) rfl rfl ?_
        refine rn tk 4 rfl ?_
        cases hr
        exact jn _ rfl rfl rfl
   ·
    refine rn tk 5 rfl ?_
    cases hr
    exact atc rfl rfl
  ·
   refine rn tk 2 rfl ?_
   cases hr
   exact ato rfl rfl rfl rfl
 ·
  refine rn tk 8 rfl ?_
  refine awp_pub (d := 2) (F := cU) (l := b2) rfl rfl (hC ?_)
  refine rn tk 1 rfl ?_
  cases hr
  exact kr tk (.inr rfl) rfl rfl
theorem message_Read_run (a0 : List UInt8) (r : TMessage × TFault) (hr : message_Read a0 = some r) : Run Tryz.prog 7 [.l cU a0] (.tup [.agg [.l TField.pc r.1.Fields, .l cU r.1.Body], .agg [.i r.2.Code, .i r.2.Index]]) := by
 unfold message_Read at hr
 refine rf (fn := Tryz.f7) ⟨Tryz.func7, rfl, by kernel_rfl⟩ rfl (fun _ => rfl) fun g0 hg => ?_
 refine rn tk 9 rfl ?_
 obtain ⟨v1, h2, hr⟩ := bind_some hr
 refine cl (header_Read_run _ _ h2) rfl rfl ?_
 refine rn tk 14 rfl ?_
 obtain ⟨v3, h4, hr⟩ := bind_some hr
 refine cl (basic_Failed_run _ _ h4) rfl rfl ?_
 refine rn tk 2 rfl ?_
 refine ac 16 hr rfl (fun c5 hr => ?_) (fun c5 hr => ?_)
 ·
  refine rn tk 1 rfl ?_
  refine mc tk [] [(2, .ptr 2 0), (3, .ptr 3 0)] mixed rfl (by kernel_rfl) .nil (fc rfl (fc rfl fn)) (hA ?_)
  refine rn tk 3 rfl ?_
  cases hr
  exact kr tk (.inr rfl) rfl rfl
 ·
  refine rn tk 7 rfl ?_
  obtain ⟨v6, h7, hr⟩ := bind_some hr
  refine wlL tk h7 rfl rfl rfl (fun _ => rfl) rfl ?_
  obtain ⟨v8, h9, hr⟩ := bind_some hr
  refine cl (message_lines_run _ _ h9) rfl rfl ?_
  refine rn tk 9 rfl ?_
  obtain ⟨v10, h11, hr⟩ := bind_some hr
  refine cl (message_Validate_run _ _ h11) rfl rfl ?_
  refine rn tk 7 rfl ?_
  obtain ⟨v12, h13, hr⟩ := bind_some hr
  refine cl (basic_Failed_run _ _ h13) rfl rfl ?_
  refine rn tk 2 rfl ?_
  refine ac 28 hr rfl (fun c14 hr => ?_) (fun c14 hr => ?_)
  ·
   refine rn tk 1 rfl ?_
   refine mc tk [] [(2, .ptr 2 0), (3, .ptr 3 0)] mixed rfl (by kernel_rfl) .nil (fc rfl (fc rfl fn)) (hA ?_)
   refine rn tk 3 rfl ?_
   cases hr
   exact kr tk (.inr rfl) rfl rfl
  ·
   refine rn tk 3 rfl ?_
   obtain ⟨v15, h16, hr⟩ := bind_some hr
   refine mc tk [(1, .agg [.i v15.Code, .i v15.Index])] [(2, .ptr 2 0), (3, .ptr 3 0)] mixed rfl (by kernel_rfl) (.cons rfl rfl (fun _ _ => (opG_call (basic_None_run  v15 h16) rfl)) .nil) (fc rfl (fc rfl fn)) (hA ?_)
   refine rn tk 2 rfl ?_
   cases hr
   exact kr tk (.inr rfl) rfl rfl
theorem message_Write_run (a0 : TMessage) (r : (List UInt8) × TFault) (hr : message_Write a0 = some r) : Run Tryz.prog 6 [.agg [.l TField.pc a0.Fields, .l cU a0.Body]] (.tup [.l cU r.1, .agg [.i r.2.Code, .i r.2.Index]]) := by
 unfold message_Write at hr
 refine rf (fn := Tryz.f6) ⟨Tryz.func6, rfl, by kernel_rfl⟩ rfl (fun _ => rfl) fun g0 hg => ?_
 refine rn tk 11 rfl ?_
 obtain ⟨v1, h2, hr⟩ := bind_some hr
 refine cl (message_Validate_run _ _ h2) rfl rfl ?_
 refine rn tk 7 rfl ?_
 obtain ⟨v3, h4, hr⟩ := bind_some hr
 refine cl (basic_Failed_run _ _ h4) rfl rfl ?_
 refine rn tk 2 rfl ?_
 refine ac 8 hr rfl (fun c5 hr => ?_) (fun c5 hr => ?_)
 ·
  refine rn tk 1 rfl ?_
  refine dr 2 [(2, .pv (.sl (some true) [])), (9, .agg [.i v1.Code, .i v1.Index])] mixed (by kernel_rfl) rfl rfl (pq tk rfl (.plain rfl) (pq tk rfl (.plain rfl) .nil)) rfl ?_
  refine rn tk 5 rfl ?_
  cases hr
  exact kr tk (.inr rfl) rfl rfl
 ·
  refine rn tk 5 rfl ?_
  obtain ⟨v6, h7, hr⟩ := bind_some hr
  refine cl (message_write_run _ _ h7) rfl rfl ?_
  obtain ⟨v8, h9, hr⟩ := bind_some hr
  refine cl (basic_None_run _ h9) rfl rfl ?_
  refine rn tk 5 rfl ?_
  cases hr
  exact kr tk (.inr rfl) rfl rfl
theorem slices_Concat_api_Field_api_Field_run (a0 : List (List TField)) (r : List TField) (hr : slices_Concat_api_Field_api_Field a0 = some r) : Run Tryz.prog 65 [.l (cL TField.pc) a0] (.l TField.pc r) := by
 unfold slices_Concat_api_Field_api_Field at hr
 refine rf (fn := Tryz.f65) ⟨Tryz.func65, rfl, by kernel_rfl⟩ rfl (fun _ => rfl) fun g0 hg => ?_
 refine rn tk 14 rfl ?_
 refine wn tk rfl rfl rfl ?_
 refine rn tk 4 rfl ?_
 refine al1 hr (fun s1 => [(0, .l (cL TField.pc) a0), (3, .i s1.1), (9, .l (cL TField.pc) a0), (10, .i ((a0.length : Int))), (11, .i s1.2)]) (fun s1 => []) (.exit 0) (fun b2 => [(0, .l (cL TField.pc) a0), (3, .i b2)]) (fun b2 => []) rfl rfl (fun s1 x3 hr => ?_) (fun b2 hr => ?_)
 ·
  unfold slices_Concat_api_Field_api_Field_l1 at hr
  refine rn tk 6 rfl ?_
  refine ac 12 hr rfl (fun c4 hr => ?_) (fun c4 hr => ?_)
  ·
   refine rn tk 6 rfl ?_
   obtain ⟨v5, h6, hr⟩ := bind_some hr
   refine wi tk h6 rfl rfl rfl rfl rfl ?_
   refine rn tk 8 rfl ?_
   refine wn tk rfl rfl rfl ?_
   refine rn tk 10 rfl ?_
   refine ac 20 hr rfl (fun c7 hr => ?_) (fun c7 hr => ?_)
   ·
    refine rn tk 1 rfl ?_
    cases hr
   ·
    refine rn tk 7 rfl ?_
    cases hr
    exact atc rfl rfl
  ·
   refine rn tk 2 rfl ?_
   cases hr
   exact ato rfl rfl rfl rfl
 ·
  refine rn tk 5 rfl ?_
  refine il (fn := Tryz.f102) (args := [.pv (.sl (some true) []), .i b2]) 100000 199999 [(0, .l (cL TField.pc) a0)] rfl ⟨Tryz.func102, rfl, by kernel_rfl⟩ rfl rfl rfl fun T1 ds1 => ?_
  refine rn tk 12 rfl ?_
  refine ac 6 hr rfl (fun c8 hr => ?_) (fun c8 hr => ?_)
  ·
   refine rn tk 1 rfl ?_
   cases hr
  ·
   refine rn tk 7 rfl ?_
   refine wq (ev_capnil rfl ty_s_api_Field.u) rfl rfl rfl ?_
   refine rn tk 1 rfl ?_
   refine wq (ev_lennil rfl ty_s_api_Field.u) rfl rfl rfl ?_
   refine rn tk 11 rfl ?_
   refine ac 16 hr rfl (fun c9 hr => ?_) (fun c9 hr => ?_)
   ·
    refine rn tk 3 rfl ?_
    refine wq (ev_capnil rfl ty_s_api_Field.u) rfl rfl rfl ?_
    refine wq (ev_slnil rfl rfl ty_s_api_Field ty_api_Field) rfl rfl rfl ?_
    refine rn tk 1 rfl ?_
    obtain ⟨v10, h11, hr⟩ := bind_some hr
    refine wo (opTo_appendn (k := 22) (F := TField.pc) (z := ((TField.mk (([] : Str)) (([] : Str))) : TField)) (lim := 4398046511104) 1022 rfl rfl rfl rfl rfl ty_s_api_Field ty_int ty_api_Field rfl rfl rfl h11) rfl ?_
    refine rn tk 1 rfl ?_
    refine wq (ev_lennil rfl ty_s_api_Field.u) rfl rfl rfl ?_
    obtain ⟨v12, h13, hr⟩ := bind_some hr
    refine wo (opTo_hcutH (k := 25) (F := TField.pc) (l := v10) rfl rfl rfl rfl ty_s_api_Field ty_api_Field h13) rfl ?_
    refine rn tk 10 rfl ?_
    refine ie tk [.hs 1022 0] [(0, .l (cL TField.pc) a0)] [(1022, .row 63 true 2 (List.map TField.pc v12))] (.inr rfl) rfl rfl rfl rfl (hO ?_)
    refine rn tk 7 rfl ?_
    refine wn tk rfl rfl rfl ?_
    refine rn tk 4 rfl ?_
    refine al1 hr (fun s14 => [(6, .hs 1022 0), (25, .l (cL TField.pc) a0), (26, .i ((a0.length : Int))), (27, .i s14.1)]) (fun s14 => [(1022, .row 63 true 2 (List.map TField.pc s14.2))]) (.exit 2) (fun b15 => [(6, .hs 1022 0)]) (fun b15 => [(1022, .row 63 true 2 (List.map TField.pc b15))]) rfl rfl (fun s14 x16 hr => ?_) (fun b15 hr => ?_)
    ·
     unfold slices_Concat_api_Field_api_Field_l2 at hr
     refine rn tk 6 rfl ?_
     refine ac 28 hr rfl (fun c17 hr => ?_) (fun c17 hr => ?_)
     ·
      refine rn tk 6 rfl ?_
      obtain ⟨v18, h19, hr⟩ := bind_some hr
      refine wi tk h19 rfl rfl rfl rfl rfl ?_
      refine rn tk 7 rfl ?_
      obtain ⟨v20, h21, hr⟩ := bind_some hr
      refine wa tk h21 rfl rfl rfl rfl (fun _ => rfl) rfl rfl ?_
      refine rn tk 8 rfl ?_
      cases hr
      exact atc rfl rfl
     ·
      refine rn tk 2 rfl ?_
      cases hr
      exact ato rfl rfl rfl rfl
    ·
     refine rn tk 8 rfl ?_
     refine awp_unmu 1022 rfl (hC ?_)
     refine awp_pub (d := 2) (F := TField.pc) (l := b15) rfl rfl (hC ?_)
     refine rn tk 1 rfl ?_
     cases hr
     exact kr tk (.inr rfl) rfl rfl
   ·
    refine rn tk 5 rfl ?_
    refine awpl_adopt 1026 (d := 26) 63 2 rfl rfl rfl (hO ?_)
    refine rn tk 4 rfl ?_
    refine ie tk [.hs 1026 0] [(0, .l (cL TField.pc) a0)] [(1026, .row 63 false 2 (List.map TField.pc (([] : List TField))))] (.inr rfl) rfl rfl rfl rfl (hO ?_)
    refine rn tk 7 rfl ?_
    refine wn tk rfl rfl rfl ?_
    refine rn tk 4 rfl ?_
    refine al1 hr (fun s22 => [(6, .hs 1026 0), (25, .l (cL TField.pc) a0), (26, .i ((a0.length : Int))), (27, .i s22.1)]) (fun s22 => [(1026, .row 63 false 2 (List.map TField.pc s22.2))]) (.exit 2) (fun b23 => [(6, .hs 1026 0)]) (fun b23 => [(1026, .row 63 false 2 (List.map TField.pc b23))]) rfl rfl (fun s22 x24 hr => ?_) (fun b23 hr => ?_)
    ·
     unfold slices_Concat_api_Field_api_Field_l3 at hr
     refine rn tk 6 rfl ?_
     refine ac 28 hr rfl (fun c25 hr => ?_) (fun c25 hr => ?_)
     ·
      refine rn tk 6 rfl ?_
      obtain ⟨v26, h27, hr⟩ := bind_some hr
      refine wi tk h27 rfl rfl rfl rfl rfl ?_
      refine rn tk 7 rfl ?_
      obtain ⟨v28, h29, hr⟩ := bind_some hr
      refine wa tk h29 rfl rfl rfl rfl (fun _ => rfl) rfl rfl ?_
      refine rn tk 8 rfl ?_
      cases hr
      exact atc rfl rfl
     ·
      refine rn tk 2 rfl ?_
      cases hr
      exact ato rfl rfl rfl rfl
    ·
     refine rn tk 8 rfl ?_
     refine awp_pub (d := 2) (F := TField.pc) (l := b23) rfl rfl (hC ?_)
     refine rn tk 1 rfl ?_
     cases hr
     exact kr tk (.inr rfl) rfl rfl
theorem trace_Front_run (a0 : TMessage) (a1 : Str) (a2 : Str) (r : TMessage) (hr : trace_Front a0 a1 a2 = some r) : Run Tryz.prog 30 [.agg [.l TField.pc a0.Fields, .l cU a0.Body], .s a1, .s a2] (.agg [.l TField.pc r.Fields, .l cU r.Body]) := by
 unfold trace_Front at hr
 refine rf (fn := Tryz.f30) ⟨Tryz.func30, rfl, by kernel_rfl⟩ rfl (fun _ => rfl) fun g0 hg => ?_
 refine rn tk 7 rfl ?_
 obtain ⟨v1, h2, hr⟩ := bind_some hr
 refine dr 10 [(16, .l cU a0.Body), (15, .ptr 3 1), (14, .l TField.pc v1), (13, .l (cL TField.pc) (([([(TField.mk a1 a2)] : List TField), a0.Fields] : List (List TField)))), (12, .l TField.pc a0.Fields), (11, .ptr 3 0), (10, .l TField.pc (([(TField.mk a1 a2)] : List TField))), (9, .agg [.s a1, .s a2]), (8, .s a2), (7, .s a1)] mixed (by kernel_rfl) rfl rfl (pq tk rfl (.plain rfl) (pq tk rfl (.plain rfl) (pq tk rfl (.plain rfl) (.run (.plain rfl) (opG_lit (F := TField.pc) (l := ([(TField.mk a1 a2)] : List TField)) ty_s_api_Field ty_api_Field rfl (fun _ => rfl) rfl rfl) (pq tk rfl (.plain rfl) (pq tk rfl (.plain rfl) (.run (.plain rfl) (opG_lit (F := (cL TField.pc)) (l := ([([(TField.mk a1 a2)] : List TField), a0.Fields] : List (List TField))) ty_s_s_api_Field ty_s_api_Field rfl (fun _ => rfl) rfl rfl) (.run (.plain rfl) (opG_call (slices_Concat_api_Field_api_Field_run (([([(TField.mk a1 a2)] : List TField), a0.Fields] : List (List TField))) v1 h2) rfl) (pq tk rfl (.plain rfl) (pq tk rfl (.plain rfl) .nil)))))))))) rfl ?_
 refine ct hr (fun j3 => [(6, .ptr 6 0), (14, .l TField.pc v1), (17, .l cU j3)]) (fun j3 => [(6, .cells [.l TField.pc ([]), .l cU ([])])]) (fun j3 hr jump1 => ?_) (fun j3 hr => ?_)
 ·
  refine il (fn := Tryz.f66) (args := [.l cU a0.Body]) 100000 199999 [(6, .ptr 6 0), (14, .l TField.pc v1)] rfl ⟨Tryz.func66, rfl, by kernel_rfl⟩ rfl rfl rfl fun T1 ds1 => ?_
  refine rn tk 9 rfl ?_
  refine awpl_isnil (d := 3) (F := cU) (l := a0.Body) rfl rfl rfl ty_s_uint8 (fun c4 => hO ?_) (hO ?_)
  ·
   replace hr := nilE_nil c4 hr
   refine rn tk 10 rfl ?_
   refine ie tk [.pv (.sl (some true) [])] [(6, .ptr 6 0), (14, .l TField.pc v1)] [(6, .cells [.pv (.sl (some true) []), .pv (.sl (some true) [])]), (3, .cells [.l TField.pc a0.Fields, .l cU a0.Body])] (.inr rfl) rfl rfl rfl rfl ?_
   cases hr
   exact jump1 _ _ rfl rfl
  ·
   replace hr := nilE_not hr
   refine rn tk 7 rfl ?_
   refine wo (opTo_litz (k := 5) rfl ty_s_uint8 ty_uint8) rfl ?_
   refine rn tk 1 rfl ?_
   obtain ⟨v5, h6, hr⟩ := bind_some hr
   refine wo (opTo_appendz (k := 7) (F := cU) (xs := a0.Body) (lim := 140737488355328) 1002 rfl rfl rfl ty_s_uint8 ty_uint8 rfl rfl (fun _ => rfl) rfl rfl rfl h6) rfl ?_
   refine rn tk 3 rfl ?_
   refine awp_unmu 1002 rfl (hC ?_)
   refine awp_pub (d := 2) (F := cU) (l := v5) rfl rfl (hC ?_)
   refine rn tk 1 rfl ?_
   refine ie tk [.l cU v5] [(6, .ptr 6 0), (14, .l TField.pc v1)] [(1002, .row 5 false 1 (List.map cU v5)), (6, .cells [.pv (.sl (some true) []), .pv (.sl (some true) [])]), (3, .cells [.l TField.pc a0.Fields, .l cU a0.Body])] (.inr rfl) rfl rfl rfl rfl ?_
   cases hr
   exact jump1 _ _ rfl rfl
 ·
  refine rn tk 5 rfl ?_
  cases hr
  exact kr tk (.inr rfl) rfl rfl
theorem trace_Stamp_run (a0 : TMessage) (a1 : Str) (a2 : Str) (a3 : Int) (r : TMessage × TFault) (hr : trace_Stamp a0 a1 a2 a3 = some r) : Run Tryz.prog 8 [.agg [.l TField.pc a0.Fields, .l cU a0.Body], .s a1, .s a2, .i a3] (.tup [.agg [.l TField.pc r.1.Fields, .l cU r.1.Body], .agg [.i r.2.Code, .i r.2.Index]]) := by
 unfold trace_Stamp at hr
 refine rf (fn := Tryz.f8) ⟨Tryz.func8, rfl, by kernel_rfl⟩ rfl (fun _ => rfl) fun g0 hg => ?_
 refine rn tk 11 rfl ?_
 obtain ⟨v1, h2, hr⟩ := bind_some hr
 refine cl (message_Validate_run _ _ h2) rfl rfl ?_
 refine rn tk 7 rfl ?_
 obtain ⟨v3, h4, hr⟩ := bind_some hr
 refine cl (basic_Failed_run _ _ h4) rfl rfl ?_
 refine rn tk 2 rfl ?_
 refine ac 20 hr rfl (fun c5 hr => ?_) (fun c5 hr => ?_)
 ·
  refine rn tk 1 rfl ?_
  refine drX 2 3 3 3 [1] [(22, .agg [.i v1.Code, .i v1.Index]), (21, .agg [.pv (.sl (some true) []), .pv (.sl (some true) [])])] [(8, .ptr 8 0), (9, .ptr 9 0), (22, .agg [.i v1.Code, .i v1.Index])] [(10, .cells [.i v1.Code, .i v1.Index]), (9, .cells [.i 0, .i 0]), (8, .cells [.pv (.sl (some true) []), .pv (.sl (some true) [])]), (4, .cells [.l TField.pc a0.Fields, .l cU a0.Body])] tk mixed (by kernel_rfl) rfl rfl rfl (pqX tk rfl (.plain rfl) (pqX tk rfl (.plain rfl) .nil)) rfl rfl rfl rfl (by kernel_rfl) ?_
  refine rn tk 5 rfl ?_
  cases hr
  exact kr tk (.inr rfl) rfl rfl
 ·
  refine rn tk 7 rfl ?_
  obtain ⟨v6, h7, hr⟩ := bind_some hr
  refine cl (basic_Name_run _ _ h7) rfl rfl ?_
  refine rn tk 4 rfl ?_
  refine ac 23 hr rfl (fun c8 hr => ?_) (fun c8 hr => ?_)
  ·
   refine rn tk 3 rfl ?_
   obtain ⟨v9, h10, hr⟩ := bind_some hr
   refine cl (basic_Fault_run _ _ _ h10) rfl rfl ?_
   refine rn tk 7 rfl ?_
   cases hr
   exact kr tk (.inr rfl) rfl rfl
  ·
   refine rn tk 3 rfl ?_
   obtain ⟨v11, h12, hr⟩ := bind_some hr
   refine cl (basic_Name_run _ _ h12) rfl rfl ?_
   refine rn tk 4 rfl ?_
   refine ac 29 hr rfl (fun c13 hr => ?_) (fun c13 hr => ?_)
   ·
    refine rn tk 3 rfl ?_
    obtain ⟨v14, h15, hr⟩ := bind_some hr
    refine cl (basic_Fault_run _ _ _ h15) rfl rfl ?_
    refine rn tk 7 rfl ?_
    cases hr
    exact kr tk (.inr rfl) rfl rfl
   ·
    refine rn tk 4 rfl ?_
    refine wn tk rfl rfl rfl ?_
    refine rn tk 4 rfl ?_
    refine ac 35 hr rfl (fun c16 hr => ?_) (fun c16 hr => ?_)
    ·
     refine rn tk 3 rfl ?_
     obtain ⟨v17, h18, hr⟩ := bind_some hr
     refine cl (basic_Fault_run _ _ _ h18) rfl rfl ?_
     refine rn tk 7 rfl ?_
     cases hr
     exact kr tk (.inr rfl) rfl rfl
    ·
     refine rn tk 6 rfl ?_
     obtain ⟨v19, h20, hr⟩ := bind_some hr
     refine cl (dates_Civil_run _ _ _ h20) rfl rfl ?_
     refine rn tk 13 rfl ?_
     obtain ⟨v21, h22, hr⟩ := bind_some hr
     refine cl (basic_Failed_run _ _ h22) rfl rfl ?_
     refine rn tk 2 rfl ?_
     refine ac 48 hr rfl (fun c23 hr => ?_) (fun c23 hr => ?_)
     ·
      refine rn tk 5 rfl ?_
      obtain ⟨v24, h25, hr⟩ := bind_some hr
      refine cl (basic_Fault_run _ _ _ h25) rfl rfl ?_
      refine rn tk 6 rfl ?_
      cases hr
      exact kr tk (.inr rfl) rfl rfl
     ·
      refine rn tk 5 rfl ?_
      obtain ⟨v26, h27, hr⟩ := bind_some hr
      refine cl (dates_Print_run _ _ h27) rfl rfl ?_
      refine rn tk 12 rfl ?_
      obtain ⟨v28, h29, hr⟩ := bind_some hr
      refine wc h29 rfl rfl rfl ?_
      obtain ⟨v30, h31, hr⟩ := bind_some hr
      refine wc h31 rfl rfl rfl ?_
      refine rn tk 1 rfl ?_
      obtain ⟨v32, h33, hr⟩ := bind_some hr
      refine wc h33 rfl rfl rfl ?_
      obtain ⟨v34, h35, hr⟩ := bind_some hr
      refine wc h35 rfl rfl rfl ?_
      refine rn tk 1 rfl ?_
      obtain ⟨v36, h37, hr⟩ := bind_some hr
      refine wc h37 rfl rfl rfl ?_
      obtain ⟨v38, h39, hr⟩ := bind_some hr
      refine cl (trace_Front_run _ _ _ _ h39) rfl rfl ?_
      refine rn tk 8 rfl ?_
      obtain ⟨v40, h41, hr⟩ := bind_some hr
      refine cl (message_Validate_run _ _ h41) rfl rfl ?_
      refine rn tk 7 rfl ?_
      obtain ⟨v42, h43, hr⟩ := bind_some hr
      refine cl (basic_Failed_run _ _ h43) rfl rfl ?_
      refine rn tk 2 rfl ?_
      refine ac 71 hr rfl (fun c44 hr => ?_) (fun c44 hr => ?_)
      ·
       refine rn tk 5 rfl ?_
       obtain ⟨v45, h46, hr⟩ := bind_some hr
       refine cl (basic_Fault_run _ _ _ h46) rfl rfl ?_
       refine rn tk 6 rfl ?_
       cases hr
       exact kr tk (.inr rfl) rfl rfl
      ·
       refine rn tk 3 rfl ?_
       obtain ⟨v47, h48, hr⟩ := bind_some hr
       refine dr 2 [(77, .agg [.i v47.Code, .i v47.Index]), (76, .agg [.l TField.pc v38.Fields, .l cU v38.Body])] mixed (by kernel_rfl) rfl rfl (pq tk rfl (.plain rfl) (.run (.plain rfl) (opG_call (basic_None_run  v47 h48) rfl) .nil)) rfl ?_
       refine rn tk 5 rfl ?_
       cases hr
       exact kr tk (.inr rfl) rfl rfl
theorem L_NoticeSurvivesTheWay_run (a0 : TMail) (a1 : Int) (a2 : List TTold) (a3 : Int) (a4 : Str) (r : Bool) (hr : L_NoticeSurvivesTheWay a0 a1 a2 a3 a4 = some r) : Run Tryz.prog 3 [.agg [.s a0.Envelope.From, .l TRecipient.pc a0.Envelope.To, .s a0.Envelope.Id, .l TField.pc a0.Message.Fields, .l cU a0.Message.Body], .i a1, .l TTold.pc a2, .i a3, .s a4] (.bo r) := by
 unfold L_NoticeSurvivesTheWay at hr
 refine rf (fn := Tryz.f3) ⟨Tryz.func3, rfl, by kernel_rfl⟩ rfl (fun _ => rfl) fun g0 hg => ?_
 refine rn tk 12 rfl ?_
 obtain ⟨v1, h2, hr⟩ := bind_some hr
 refine cl (notice_Make_run _ _ _ _ _ h2) rfl rfl ?_
 refine rn tk 10 rfl ?_
 refine jb hr (fun j3 => [(1, .i a1), (2, .l TTold.pc a2), (3, .i a3), (4, .s a4), (5, .ptr 5 0), (11, .ptr 11 0), (36, .bo j3)]) (fun j3 => [(11, .cells [.s v1.1.Envelope.From, .l TRecipient.pc v1.1.Envelope.To, .s v1.1.Envelope.Id, .l TField.pc v1.1.Message.Fields, .l cU v1.1.Message.Body]), (5, .cells [.s a0.Envelope.From, .l TRecipient.pc a0.Envelope.To, .s a0.Envelope.Id, .l TField.pc a0.Message.Fields, .l cU a0.Message.Body])]) (fun j3 hr => ?_) (fun j3 hr => ?_)
 ·
  refine rn tk 1 rfl ?_
  obtain ⟨v4, h5, hr⟩ := bind_some hr
  refine cl (L_tells_run _ h5) rfl rfl ?_
  refine rn tk 2 rfl ?_
  refine bs 32 hr rfl (fun c6 hr => ?_) (fun c6 hr => ?_)
  ·
   refine rn tk 5 rfl ?_
   cases hr
   exact jn _ rfl rfl rfl
  ·
   refine rn tk 5 rfl ?_
   cases hr
   exact jn _ rfl rfl rfl
 ·
  refine ac 36 hr rfl (fun c7 hr => ?_) (fun c7 hr => ?_)
  ·
   refine jb hr (fun j8 => [(10, .bo j8)]) (fun j8 => []) (fun j8 hr => ?_) (fun j8 hr => ?_)
   ·
    refine rn tk 1 rfl ?_
    obtain ⟨v9, h10, hr⟩ := bind_some hr
    refine cl (L_tells_run _ h10) rfl rfl ?_
    refine rn tk 1 rfl ?_
    refine bs 38 hr rfl (fun c11 hr => ?_) (fun c11 hr => ?_)
    ·
     refine rn tk 3 rfl ?_
     refine ug rfl rfl rfl ?_
     refine wn tk rfl rfl rfl ?_
     refine rn tk 4 rfl ?_
     cases hr
     exact jn _ rfl rfl rfl
    ·
     refine rn tk 8 rfl ?_
     cases hr
     exact jn _ rfl rfl rfl
   ·
    refine rn tk 2 rfl ?_
    cases hr
    exact kr tk (.inr rfl) rfl rfl
  ·
   refine rn tk 6 rfl ?_
   obtain ⟨v12, h13, hr⟩ := bind_some hr
   refine cl (message_Write_run _ _ h13) rfl rfl ?_
   refine rn tk 11 rfl ?_
   obtain ⟨v14, h15, hr⟩ := bind_some hr
   refine cl (message_Read_run _ _ h15) rfl rfl ?_
   refine rn tk 10 rfl ?_
   refine jb hr (fun j16 => [(1, .i a1), (2, .l TTold.pc a2), (3, .i a3), (4, .s a4), (5, .ptr 5 0), (15, .ptr 15 0), (63, .bo j16)]) (fun j16 => [(15, .cells [.l TField.pc v14.1.Fields, .l cU v14.1.Body]), (5, .cells [.s a0.Envelope.From, .l TRecipient.pc a0.Envelope.To, .s a0.Envelope.Id, .l TField.pc a0.Message.Fields, .l cU a0.Message.Body])]) (fun j16 hr => ?_) (fun j16 hr => ?_)
   ·
    refine rn tk 5 rfl ?_
    refine bs 59 hr rfl (fun c17 hr => ?_) (fun c17 hr => ?_)
    ·
     refine rn tk 5 rfl ?_
     cases hr
     exact jn _ rfl rfl rfl
    ·
     refine rn tk 5 rfl ?_
     cases hr
     exact jn _ rfl rfl rfl
   ·
    refine ac 63 hr rfl (fun c18 hr => ?_) (fun c18 hr => ?_)
    ·
     refine rn tk 7 rfl ?_
     cases hr
     exact kr tk (.inr rfl) rfl rfl
    ·
     refine rn tk 7 rfl ?_
     obtain ⟨v19, h20, hr⟩ := bind_some hr
     refine cl (trace_Stamp_run _ _ _ _ _ h20) rfl rfl ?_
     refine rn tk 9 rfl ?_
     refine jb hr (fun j21 => [(1, .i a1), (2, .l TTold.pc a2), (5, .ptr 5 0), (17, .ptr 17 0)]) (fun j21 => [(17, .cells [.l TField.pc j21.1, .l cU j21.2]), (5, .cells [.s a0.Envelope.From, .l TRecipient.pc a0.Envelope.To, .s a0.Envelope.Id, .l TField.pc a0.Message.Fields, .l cU a0.Message.Body])]) (fun j21 hr => ?_) (fun j21 hr => ?_)
     ·
      refine rn tk 7 rfl ?_
      refine ac 73 hr rfl (fun c22 hr => ?_) (fun c22 hr => ?_)
      ·
       refine rn tk 4 rfl ?_
       cases hr
       exact jn _ rfl rfl rfl
      ·
       refine rn tk 1 rfl ?_
       cases hr
       exact jn _ rfl rfl rfl
     ·
      refine rn tk 3 rfl ?_
      obtain ⟨v23, h24, hr⟩ := bind_some hr
      refine cl (notice_Read_run _ _ h24) rfl rfl ?_
      refine rn tk 11 rfl ?_
      refine jb hr (fun j25 => [(10, .bo j25)]) (fun j25 => []) (fun j25 hr => ?_) (fun j25 hr => ?_)
      ·
       refine rn tk 5 rfl ?_
       refine bs 84 hr rfl (fun c26 hr => ?_) (fun c26 hr => ?_)
       ·
        refine rn tk 3 rfl ?_
        refine bs 87 hr rfl (fun c27 hr => ?_) (fun c27 hr => ?_)
        ·
         refine rn tk 6 rfl ?_
         refine bs 93 hr rfl (fun c28 hr => ?_) (fun c28 hr => ?_)
         ·
          refine rn tk 8 rfl ?_
          refine bs 101 hr rfl (fun c29 hr => ?_) (fun c29 hr => ?_)
          ·
           refine rn tk 7 rfl ?_
           obtain ⟨v30, h31, hr⟩ := bind_some hr
           refine ug rfl rfl rfl ?_
           refine cl (L_sameNotice_run _ _ _ h31) rfl rfl ?_
           refine rn tk 3 rfl ?_
           cases hr
           exact jn _ rfl rfl rfl
          ·
           refine rn tk 11 rfl ?_
           cases hr
           exact jn _ rfl rfl rfl
         ·
          refine rn tk 19 rfl ?_
          cases hr
          exact jn _ rfl rfl rfl
        ·
         refine rn tk 25 rfl ?_
         cases hr
         exact jn _ rfl rfl rfl
       ·
        refine rn tk 28 rfl ?_
        cases hr
        exact jn _ rfl rfl rfl
      ·
       refine rn tk 1 rfl ?_
       cases hr
       exact kr tk (.inr rfl) rfl rfl
end Go.Proofs.YtpclhpncmlbccaaGreatDoor

namespace Go.Proofs.YtpclhpncmlbccaaGreatDoor.noticeSurvivesTheWay
open Go.ChangeShapes Go.WideShapes Go.ChangeAt Go.RowKit
set_option linter.unusedVariables false
set_option maxRecDepth 100000

theorem contract (H : Type) (enc : TypeId × Value → H) (W : World) (base : Nat) (args : Array Value) (ds gs : List (DataW H)) (before : List MemPlace)
    (hval : ∀ (j : Nat) t v, Tryz.f3.params[j]? = some t → args[j]? = some v → Value.okWide Tryz.prog W .any base t v)
    (hW : DataW.Whole enc Tryz.prog Tryz.f3.params.toList Rows.noticeSurvivesTheWaySpec.vars false W args.toList ds gs before) (hk : Rows.uptoSmall H (ds ++ gs) = true) (hgl : Gl (gAll W)) :
    Calls Tryz.prog 3 args W fun e W' => ∃ v, e = .returned v ∧ Rows.noticeSurvivesTheWaySpec.post enc Tryz.prog Tryz.f3 false true false false W args v W' := by
  have hW' := hW
  obtain ⟨p, q, hA0, hV, rfl, hfz, hnd⟩ := hW
  have hA : DataW.TrodAll enc Tryz.prog W 0 (fun _ => true) true Tryz.f3.params.toList args.toList ds p := hA0
  rw [Tryz.params3] at hA hval
  obtain ⟨v0, vs0, d0, ds0, p0, q0, hargs, rfl, rfl, h0, r0⟩ := trodAll_cons hA
  obtain ⟨v1, vs1, d1, ds1, p1, q1, rfl, rfl, rfl, h1, r1⟩ := trodAll_cons r0
  obtain ⟨v2, vs2, d2, ds2, p2, q2, rfl, rfl, rfl, h2, r2⟩ := trodAll_cons r1
  obtain ⟨v3, vs3, d3, ds3, p3, q3, rfl, rfl, rfl, h3, r3⟩ := trodAll_cons r2
  obtain ⟨v4, vs4, d4, ds4, p4, q4, rfl, rfl, rfl, h4, r4⟩ := trodAll_cons r3
  obtain ⟨rfl, rfl, rfl⟩ := trodAll_nil r4
  obtain rfl : args = #[v0, v1, v2, v3, v4] := by cases args; simp_all
  obtain ⟨rfl, rfl⟩ := trodVars_none hV
  obtain ⟨a0, e0, o0, k0⟩ := arg_agg op_api_Mail (by obtain ⟨cs, h, _⟩ := okWide_struct ty_api_Mail.u (hval 0 _ v0 rfl rfl); exact ⟨cs, h⟩) h0
  obtain ⟨a1, e1, o1, k1⟩ := arg_one op_int (by obtain ⟨_, h⟩ := okWide_int ty_int.u (hval 1 _ v1 rfl rfl); rw [h]; rfl) h1
  obtain ⟨a2, e2, o2, k2⟩ := arg_one op_s_api_Told (by obtain ⟨_, _, _, h⟩ := okWide_slice ty_s_api_Told.u (hval 2 _ v2 rfl rfl); rw [h]; rfl) h2
  obtain ⟨a3, e3, o3, k3⟩ := arg_one op_int (by obtain ⟨_, h⟩ := okWide_int ty_int.u (hval 3 _ v3 rfl rfl); rw [h]; rfl) h3
  obtain ⟨a4, e4, o4, k4⟩ := arg_one op_string (by obtain ⟨_, h⟩ := okWide_string ty_string.u (hval 4 _ v4 rfl rfl); rw [h]; rfl) h4
  have hk2 := of_decide_eq_true hk
  simp only [List.append_nil, Rows.uptoBulkAll] at hk2
  have ht := L_NoticeSurvivesTheWay_true a0 a1 a2 a3 a4 o0 o1 o2 o3 o4 (by (try dsimp only); omega)
  have key : Calls Tryz.prog 3 #[v0, v1, v2, v3, v4] W fun e W' => e = .returned (.bool true) ∧ Below W.heap.size W W' := calls_of_run (L_NoticeSurvivesTheWay_run a0 a1 a2 a3 a4 true ht) hgl (relArgs_of (.cons e0 (.cons (e1 _ rfl) (.cons (e2 _ rfl) (.cons (e3 _ rfl) (.cons (e4 _ rfl) .nil))))))
  refine key.mono fun e W' ⟨he, hb⟩ => ⟨_, he, ?_⟩
  exact post_true laidOut (by kernel_rfl) Tryz.underlying4 (by kernel_rfl) rfl rfl hW' hb

/-- a world for the witness -/
noncomputable def wit (os : Os) : World := let w0 := World.doorLaid Tryz.prog 34 os
  { w0 with heap := w0.heap.modify 2 fun
    | .cells _ t fz => .cells (Lib.firstTab.map fun z => Value.int .u8 z).toArray t fz
    | o => o }
theorem reads (os : Os) {H : Type} (enc : TypeId × Value → H) : ∃ places, DataW.whole enc Tryz.prog ((wit os).forCall (fun _ _ => 0) ⟨#[], #[.agg #[.string ⟨#[]⟩, .slice none 0 0, .string ⟨#[]⟩, .slice none 0 0, .slice none 0 0], .int .i64 0, .slice none 0 0, .int .i64 0, .string ⟨#[]⟩], []⟩).memory Tryz.f3.params.toList (Rows.OpenSpec.upto Rows.noticeSurvivesTheWaySpec).vars false (#[.agg #[.string ⟨#[]⟩, .slice none 0 0, .string ⟨#[]⟩, .slice none 0 0, .slice none 0 0], .int .i64 0, .slice none 0 0, .int .i64 0, .string ⟨#[]⟩] : Array Value).toList 8 = some ([.agg [.agg [.lit (.string []), .nil, .lit (.string [])], .agg [.nil, .nil]], .lit (.int .i64 0), .nil, .lit (.int .i64 0), .lit (.string [])], [], places) :=
  ⟨[], by kernel_rfl⟩
theorem lifted (os : Os) (started : os.Started) (H : Type) (enc : TypeId × Value → H) (F : Stop.Interp) :
    ReturnsInHanded {} Tryz.checked os 3 .any ((Rows.OpenSpec.upto Rows.noticeSurvivesTheWaySpec).preRow enc Tryz.prog Tryz.f3 Rows.noticeSurvivesTheWayUptoRow.domain false Rows.noticeSurvivesTheWayUptoRow.laid) (((Rows.OpenSpec.upto Rows.noticeSurvivesTheWaySpec).at F).post enc Tryz.prog Tryz.f3 false true false false) := by
  obtain ⟨places, hx⟩ := reads os enc
  refine returnsInHanded_of_row (C := Tryz.checked) (s := Rows.OpenSpec.upto Rows.noticeSurvivesTheWaySpec) own started (by kernel_rfl) Tryz.func3
    (witness_row_atRef (enc := enc) (C := Tryz.checked) false (wit os) #[.agg #[.string ⟨#[]⟩, .slice none 0 0, .string ⟨#[]⟩, .slice none 0 0, .slice none 0 0], .int .i64 0, .slice none 0 0, .int .i64 0, .string ⟨#[]⟩] rfl (by kernel_rfl) (by kernel_rfl) (by kernel_rfl)
      (OpenSpec.preRow_of_cond 8 hx (by kernel_rfl) (fun k hk => by cases hk; kernel_rfl) (by kernel_rfl) (laidMet_of_run' 8 (by kernel_rfl) (by kernel_rfl)))) ?_
  intro W base args ds gs before hval hW _ hk _ hL hsh _
  exact contract H enc W base args ds gs before hval hW (hk _ rfl) (gl_of_laid (rest := Rows.noticeSurvivesTheWayUptoRow.laid.drop 3) hsh (by kernel_rfl) hL (fun _ k hk => by simp [globI] at hk))

theorem j0 : jf0 Tryz.pinned.checked.prog 3 Tryz.f3 (Rows.OpenSpec.upto Rows.noticeSurvivesTheWaySpec).bare Rows.noticeSurvivesTheWayUptoRow = true := by kernel_rfl
theorem j1 : jf1 Tryz.pinned.checked.prog 3 Tryz.f3 (Rows.OpenSpec.upto Rows.noticeSurvivesTheWaySpec).bare Rows.noticeSurvivesTheWayUptoRow = true := by kernel_rfl
theorem j2 : jf2 Tryz.pinned.checked.prog 3 Tryz.f3 (Rows.OpenSpec.upto Rows.noticeSurvivesTheWaySpec).bare Rows.noticeSurvivesTheWayUptoRow = true := by kernel_rfl
theorem j3 : jf3 Tryz.pinned.checked.prog 3 Tryz.f3 (Rows.OpenSpec.upto Rows.noticeSurvivesTheWaySpec).bare Rows.noticeSurvivesTheWayUptoRow = true := by kernel_rfl
theorem j4 : jf4 Tryz.pinned.checked.prog 3 Tryz.f3 (Rows.OpenSpec.upto Rows.noticeSurvivesTheWaySpec).bare Rows.noticeSurvivesTheWayUptoRow = true := by kernel_rfl
theorem j5 : jf5 Tryz.pinned.checked.prog 3 Tryz.f3 (Rows.OpenSpec.upto Rows.noticeSurvivesTheWaySpec).bare Rows.noticeSurvivesTheWayUptoRow = true := by kernel_rfl
theorem j6 : jf6 Tryz.pinned.checked.prog 3 Tryz.f3 (Rows.OpenSpec.upto Rows.noticeSurvivesTheWaySpec).bare Rows.noticeSurvivesTheWayUptoRow = true := by kernel_rfl
theorem j7 : jf7 Tryz.pinned.checked.prog 3 Tryz.f3 (Rows.OpenSpec.upto Rows.noticeSurvivesTheWaySpec).bare Rows.noticeSurvivesTheWayUptoRow = true := by kernel_rfl
theorem j8 : jf8 Tryz.pinned.checked.prog 3 Tryz.f3 (Rows.OpenSpec.upto Rows.noticeSurvivesTheWaySpec).bare Rows.noticeSurvivesTheWayUptoRow = true := by kernel_rfl
theorem j9 : jf9 Tryz.pinned.checked.prog 3 Tryz.f3 (Rows.OpenSpec.upto Rows.noticeSurvivesTheWaySpec).bare Rows.noticeSurvivesTheWayUptoRow = true := by kernel_rfl
theorem j10 : jf10 Tryz.pinned.checked.prog 3 Tryz.f3 (Rows.OpenSpec.upto Rows.noticeSurvivesTheWaySpec).bare Rows.noticeSurvivesTheWayUptoRow = true := by kernel_rfl
theorem j11 : jf11 Tryz.pinned.checked.prog 3 Tryz.f3 (Rows.OpenSpec.upto Rows.noticeSurvivesTheWaySpec).bare Rows.noticeSurvivesTheWayUptoRow = true := by kernel_rfl
theorem j12 : jf12 Tryz.pinned.checked.prog 3 Tryz.f3 (Rows.OpenSpec.upto Rows.noticeSurvivesTheWaySpec).bare Rows.noticeSurvivesTheWayUptoRow = true := by kernel_rfl
theorem j13 : jf13 Tryz.pinned.checked.prog 3 Tryz.f3 (Rows.OpenSpec.upto Rows.noticeSurvivesTheWaySpec).bare Rows.noticeSurvivesTheWayUptoRow = true := by kernel_rfl
theorem j14 : jf14 Tryz.pinned.checked.prog 3 Tryz.f3 (Rows.OpenSpec.upto Rows.noticeSurvivesTheWaySpec).bare Rows.noticeSurvivesTheWayUptoRow = true := by kernel_rfl
theorem j15 : jf15 Tryz.pinned.checked.prog 3 Tryz.f3 (Rows.OpenSpec.upto Rows.noticeSurvivesTheWaySpec).bare Rows.noticeSurvivesTheWayUptoRow = true := by kernel_rfl
theorem j16 : jf16 Tryz.pinned.checked.prog 3 Tryz.f3 (Rows.OpenSpec.upto Rows.noticeSurvivesTheWaySpec).bare Rows.noticeSurvivesTheWayUptoRow = true := by kernel_rfl
theorem j17 : jf17 Tryz.pinned.checked.prog 3 Tryz.f3 (Rows.OpenSpec.upto Rows.noticeSurvivesTheWaySpec).bare Rows.noticeSurvivesTheWayUptoRow = true := by kernel_rfl
theorem j18 : jf18 Tryz.pinned.checked.prog 3 Tryz.f3 (Rows.OpenSpec.upto Rows.noticeSurvivesTheWaySpec).bare Rows.noticeSurvivesTheWayUptoRow = true := by kernel_rfl
theorem j19 : jf19 Tryz.pinned.checked.prog 3 Tryz.f3 (Rows.OpenSpec.upto Rows.noticeSurvivesTheWaySpec).bare Rows.noticeSurvivesTheWayUptoRow = true := by kernel_rfl
theorem j20 : jf20 Tryz.pinned.checked.prog 3 Tryz.f3 (Rows.OpenSpec.upto Rows.noticeSurvivesTheWaySpec).bare Rows.noticeSurvivesTheWayUptoRow = true := by kernel_rfl
theorem j21 : jf21 Tryz.pinned.checked.prog 3 Tryz.f3 (Rows.OpenSpec.upto Rows.noticeSurvivesTheWaySpec).bare Rows.noticeSurvivesTheWayUptoRow = true := by kernel_rfl
theorem j22 : jf22 Tryz.pinned.checked.prog 3 Tryz.f3 (Rows.OpenSpec.upto Rows.noticeSurvivesTheWaySpec).bare Rows.noticeSurvivesTheWayUptoRow = true := by kernel_rfl
theorem j23 : jf23 Tryz.pinned.checked.prog 3 Tryz.f3 (Rows.OpenSpec.upto Rows.noticeSurvivesTheWaySpec).bare Rows.noticeSurvivesTheWayUptoRow = true := by kernel_rfl
theorem j24 : jf24 Tryz.pinned.checked.prog 3 Tryz.f3 (Rows.OpenSpec.upto Rows.noticeSurvivesTheWaySpec).bare Rows.noticeSurvivesTheWayUptoRow = true := by kernel_rfl
theorem j25 : jf25 Tryz.pinned.checked.prog 3 Tryz.f3 (Rows.OpenSpec.upto Rows.noticeSurvivesTheWaySpec).bare Rows.noticeSurvivesTheWayUptoRow = true := by kernel_rfl
theorem j26 : jf26 Tryz.pinned.checked.prog 3 Tryz.f3 (Rows.OpenSpec.upto Rows.noticeSurvivesTheWaySpec).bare Rows.noticeSurvivesTheWayUptoRow = true := by kernel_rfl
theorem j27 : jf27 Tryz.pinned.checked.prog 3 Tryz.f3 (Rows.OpenSpec.upto Rows.noticeSurvivesTheWaySpec).bare Rows.noticeSurvivesTheWayUptoRow = true := by kernel_rfl
theorem j28 : jf28 Tryz.pinned.checked.prog 3 Tryz.f3 (Rows.OpenSpec.upto Rows.noticeSurvivesTheWaySpec).bare Rows.noticeSurvivesTheWayUptoRow = true := by kernel_rfl
theorem j29 : jf29 Tryz.pinned.checked.prog 3 Tryz.f3 (Rows.OpenSpec.upto Rows.noticeSurvivesTheWaySpec).bare Rows.noticeSurvivesTheWayUptoRow = true := by kernel_rfl
theorem j30 : jf30 Tryz.pinned.checked.prog 3 Tryz.f3 (Rows.OpenSpec.upto Rows.noticeSurvivesTheWaySpec).bare Rows.noticeSurvivesTheWayUptoRow = true := by kernel_rfl
theorem j31 : jf31 Tryz.pinned.checked.prog 3 Tryz.f3 (Rows.OpenSpec.upto Rows.noticeSurvivesTheWaySpec).bare Rows.noticeSurvivesTheWayUptoRow = true := by kernel_rfl
theorem said : Rows.noticeSurvivesTheWayUptoRow.holds Tryz.pinned (Rows.OpenSpec.upto Rows.noticeSurvivesTheWaySpec) :=
  OpenClaim.holds_of_cond 3 Tryz.f3 rfl rfl rfl rfl rfl rfl rfl ⟨rfl, rfl, rfl, rfl, rfl⟩ rfl rfl rfl rfl rfl (by kernel_rfl) Tryz.func3 (joined_of j0 j1 j2 j3 j4 j5 j6 j7 j8 j9 j10 j11 j12 j13 j14 j15 j16 j17 j18 j19 j20 j21 j22 j23 j24 j25 j26 j27 j28 j29 j30 j31)
    (of_decide_eq_true (by kernel_rfl)) (by unfold Func.isWrapper; first | (rw [if_pos (by decide +kernel)]; kernel_rfl) | (rw [if_neg (by decide +kernel)]; exact ⟨rfl, rfl⟩))
    (fun os started H enc _ F => by rw [OpenClaim.pre_eq_preRow]; exact lifted os started H enc F)

theorem plain (f : FuncId) (fn : Func) (hf : Tryz.pinned.checked.prog.funcNamed "posthouse/posthouselaw3.NoticeSurvivesTheWay" = some f) (hfn : Tryz.pinned.checked.prog.funcs[f]? = some fn) :
    true = Tryz.pinned.checked.prog.looks [] ∧ ∀ (j : Nat) t, fn.params[j]? = some t → Tryz.pinned.checked.prog.wantsStandIn t = false := by
  obtain rfl : f = 3 := Option.some.inj ((show Tryz.prog.funcNamed "posthouse/posthouselaw3.NoticeSurvivesTheWay" = some 3 by kernel_rfl).symm.trans hf) |>.symm
  obtain rfl : fn = Tryz.f3 := (Option.some.inj (Tryz.func3.symm.trans hfn)).symm
  refine ⟨by kernel_rfl, fun j t ht => ?_⟩
  rw [Tryz.params3] at ht
  have hm := Array.mem_of_getElem? ht
  simp only [List.mem_toArray, List.mem_cons, List.not_mem_nil, or_false] at hm
  rcases hm with rfl | rfl | rfl | rfl | rfl
  · exact (show Tryz.prog.wantsStandIn 30 = false by kernel_rfl)
  · exact (show Tryz.prog.wantsStandIn 3 = false by kernel_rfl)
  · exact (show Tryz.prog.wantsStandIn 31 = false by kernel_rfl)
  · exact (show Tryz.prog.wantsStandIn 3 = false by kernel_rfl)
  · exact (show Tryz.prog.wantsStandIn 9 = false by kernel_rfl)
theorem proved : Rows.NoticeSurvivesTheWayUptoCardSaid :=
  Claim7.holds_tied_plain_at .later [] _ _ _ _ said (fun _ h => by cases h) (by kernel_rfl) (fun _ h => by cases h) noticeSurvivesTheWayUpto_row_tie rfl ⟨rfl, rfl⟩ (by kernel_rfl) rfl plain (by kernel_rfl)
#print axioms proved
end Go.Proofs.YtpclhpncmlbccaaGreatDoor.noticeSurvivesTheWay
