/- Part 3 of the proof of the law ForwardStepMatchesSpec: what it needs. -/
import Derived.Test.YtfhfjckjmacekaaGreatKForwardStepMatchesSpec2
set_option linter.unusedVariables false
set_option linter.unusedSimpArgs false
namespace Go.Proofs.YtfhfjckjmacekaaGreat
open Go.RowKit
set_option maxRecDepth 100000
set_option maxHeartbeats 40000000
set_option linter.unusedVariables false
theorem envelope_Recipients_run (a0 : List TRecipient) (r : TFault) (hr : envelope_Recipients a0 = some r) : Run Tryz.prog 82 [.l TRecipient.pc a0] (.agg [.i r.Code, .i r.Index]) := by
 unfold envelope_Recipients at hr
 refine rf (fn := Tryz.f82) ⟨Tryz.func82, rfl, by kernel_rfl⟩ rfl (fun _ => rfl) fun g0 hg => ?_
 refine rn tk 9 rfl ?_
 refine wn tk rfl rfl rfl ?_
 refine rn tk 4 rfl ?_
 refine al2 hr (fun s1 => [(0, .l TRecipient.pc a0), (2, .ptr 2 0), (5, .l TRecipient.pc a0), (6, .i ((a0.length : Int))), (7, .i s1)]) (fun s1 => [(2, .cells [.i 0, .i 0])]) (.exit 0) (fun b2 => [(2, .ptr 2 0)]) (fun b2 => [(2, .cells [.i 0, .i 0])]) .ret (fun b3 => [(2, .ptr 2 0)]) (fun b3 => [(2, .cells [.i b3.Code, .i b3.Index])]) rfl rfl (fun s1 x5 hr => ?_) (fun b2 hr => ?_) (fun b3 hr => ?_)
 ·
  unfold envelope_Recipients_l1 at hr
  refine rn tk 6 rfl ?_
  refine ac 8 hr rfl (fun c6 hr => ?_) (fun c6 hr => ?_)
  ·
   refine rn tk 7 rfl ?_
   obtain ⟨v7, h8, hr⟩ := bind_some hr
   refine wi tk h8 rfl rfl rfl rfl rfl ?_
   refine rn tk 11 rfl ?_
   obtain ⟨v9, h10, hr⟩ := bind_some hr
   refine cl (envelope_Address_run _ _ h10) rfl rfl ?_
   refine rn tk 4 rfl ?_
   refine ac 12 hr rfl (fun c11 hr => ?_) (fun c11 hr => ?_)
   ·
    refine rn tk 3 rfl ?_
    obtain ⟨v12, h13, hr⟩ := bind_some hr
    refine cl (basic_Fault_run _ _ _ h13) rfl rfl ?_
    refine rn tk 7 rfl ?_
    cases hr
    exact ato rfl rfl rfl rfl
   ·
    refine rn tk 4 rfl ?_
    obtain ⟨v14, h15, hr⟩ := bind_some hr
    refine cl (envelope_Notify_run _ _ h15) rfl rfl ?_
    refine rn tk 4 rfl ?_
    refine ac 19 hr rfl (fun c16 hr => ?_) (fun c16 hr => ?_)
    ·
     refine rn tk 3 rfl ?_
     obtain ⟨v17, h18, hr⟩ := bind_some hr
     refine cl (basic_Fault_run _ _ _ h18) rfl rfl ?_
     refine rn tk 7 rfl ?_
     cases hr
     exact ato rfl rfl rfl rfl
    ·
     refine rn tk 4 rfl ?_
     obtain ⟨v19, h20, hr⟩ := bind_some hr
     refine wlH tk h20 rfl rfl rfl (fun _ => rfl) rfl ?_
     refine rn tk 1 rfl ?_
     refine il (fn := Tryz.f62) (args := [.l TRecipient.pc v19, .fn (.func 102) [] [.ptr 4 0]]) 500000 599999 [(0, .l TRecipient.pc a0), (2, .ptr 2 0), (3, .i s1), (5, .l TRecipient.pc a0), (6, .i ((a0.length : Int))), (7, .i s1)] rfl ⟨Tryz.func62, rfl, by kernel_rfl⟩ rfl rfl rfl fun T5 ds5 => ?_
     refine rn tk 9 rfl ?_
     refine ct hr (fun j21 => [(7, .i j21)]) (fun j21 => [(599999, .sus g0.w.heap.size ds5), (500000, .hold (.l TRecipient.pc a0) (T5.getD 0 undef)), (500002, .hold (.ptr 2 0) (T5.getD 2 undef)), (500005, .hold (.l TRecipient.pc a0) (T5.getD 5 undef)), (500006, .hold (.i ((a0.length : Int))) (T5.getD 6 undef)), (500007, .hold (.i s1) (T5.getD 7 undef)), (500003, .hold (.i s1) (T5.getD 3 undef)), (2, .cells [.i 0, .i 0])]) (fun j21 hr jump6 => ?_) (fun j21 hr => ?_)
     ·
      refine il (fn := Tryz.f87) (args := [.l TRecipient.pc v19, .fn (.func 102) [] [.ptr 4 0]]) 600000 699999 [] rfl ⟨Tryz.func87, rfl, by kernel_rfl⟩ rfl rfl rfl fun T6 ds6 => ?_
      refine rn tk 9 rfl ?_
      refine wn tk rfl rfl rfl ?_
      refine rn tk 4 rfl ?_
      refine al2 hr (fun s22 => [(0, .l TRecipient.pc v19), (1, .fn (.func 102) [] [.ptr 4 0]), (7, .i ((v19.length : Int))), (8, .i s22)]) (fun s22 => [(699999, .sus g0.w.heap.size ds6), (599999, .sus g0.w.heap.size ds5), (500000, .hold (.l TRecipient.pc a0) (T5.getD 0 undef)), (500002, .hold (.ptr 2 0) (T5.getD 2 undef)), (500005, .hold (.l TRecipient.pc a0) (T5.getD 5 undef)), (500006, .hold (.i ((a0.length : Int))) (T5.getD 6 undef)), (500007, .hold (.i s1) (T5.getD 7 undef)), (500003, .hold (.i s1) (T5.getD 3 undef)), (4, .cells [.s v7.Address, .i v7.Notify]), (2, .cells [.i 0, .i 0])]) (.exit 0) (fun b23 => []) (fun b23 => [(699999, .sus g0.w.heap.size ds6), (599999, .sus g0.w.heap.size ds5), (500000, .hold (.l TRecipient.pc a0) (T5.getD 0 undef)), (500002, .hold (.ptr 2 0) (T5.getD 2 undef)), (500005, .hold (.l TRecipient.pc a0) (T5.getD 5 undef)), (500006, .hold (.i ((a0.length : Int))) (T5.getD 6 undef)), (500007, .hold (.i s1) (T5.getD 7 undef)), (500003, .hold (.i s1) (T5.getD 3 undef)), (2, .cells [.i 0, .i 0])]) .ret (fun b24 => [(4, .i b24)]) (fun b24 => [(699999, .sus g0.w.heap.size ds6), (599999, .sus g0.w.heap.size ds5), (500000, .hold (.l TRecipient.pc a0) (T5.getD 0 undef)), (500002, .hold (.ptr 2 0) (T5.getD 2 undef)), (500005, .hold (.l TRecipient.pc a0) (T5.getD 5 undef)), (500006, .hold (.i ((a0.length : Int))) (T5.getD 6 undef)), (500007, .hold (.i s1) (T5.getD 7 undef)), (500003, .hold (.i s1) (T5.getD 3 undef)), (2, .cells [.i 0, .i 0])]) rfl rfl (fun s22 x26 hr => ?_) (fun b23 hr => ?_) (fun b24 hr => ?_)
      ·
       unfold envelope_Recipients_l2 at hr
       refine rn tk 6 rfl ?_
       refine ac 9 hr rfl (fun c27 hr => ?_) (fun c27 hr => ?_)
       ·
        refine rn tk 15 rfl ?_
        obtain ⟨v28, h29, hr⟩ := bind_some hr
        refine wi tk h29 rfl rfl rfl rfl rfl ?_
        refine rn tk 1 rfl ?_
        refine il (fn := Tryz.f102) (args := [.agg [.s v28.Address, .i v28.Notify], .ptr 4 0]) 800000 899999 [(0, .l TRecipient.pc v19), (1, .fn (.func 102) [] [.ptr 4 0]), (5, .i s22), (7, .i ((v19.length : Int))), (8, .i s22)] rfl ⟨Tryz.func102, rfl, by kernel_rfl⟩ rfl rfl rfl fun T8 ds8 => ?_
        refine rn tk 2 rfl ?_
        refine wo (opTo_box (k := 2) 1002 rfl rfl rfl rfl rfl) rfl ?_
        refine rn tk 14 rfl ?_
        refine ie tk [.bo ((v28.Address == v7.Address))] [(0, .l TRecipient.pc v19), (1, .fn (.func 102) [] [.ptr 4 0]), (5, .i s22), (7, .i ((v19.length : Int))), (8, .i s22)] [(1002, .cells [.s v28.Address, .i v28.Notify]), (699999, .sus g0.w.heap.size ds6), (599999, .sus g0.w.heap.size ds5), (500000, .hold (.l TRecipient.pc a0) (T5.getD 0 undef)), (500002, .hold (.ptr 2 0) (T5.getD 2 undef)), (500005, .hold (.l TRecipient.pc a0) (T5.getD 5 undef)), (500006, .hold (.i ((a0.length : Int))) (T5.getD 6 undef)), (500007, .hold (.i s1) (T5.getD 7 undef)), (500003, .hold (.i s1) (T5.getD 3 undef)), (4, .cells [.s v7.Address, .i v7.Notify]), (2, .cells [.i 0, .i 0])] (.inr rfl) rfl rfl rfl rfl (hO ?_)
        refine rn tk 2 rfl ?_
        refine ac 16 hr rfl (fun c30 hr => ?_) (fun c30 hr => ?_)
        ·
         refine rn tk 9 rfl ?_
         cases hr
         exact ato rfl rfl rfl rfl
        ·
         refine rn tk 7 rfl ?_
         cases hr
         exact atc rfl rfl
       ·
        refine rn tk 2 rfl ?_
        cases hr
        exact ato rfl rfl rfl rfl
      ·
       refine rn tk 8 rfl ?_
       refine ie tk [.i ((-1))] [] [(599999, .sus g0.w.heap.size ds5), (500000, .hold (.l TRecipient.pc a0) (T5.getD 0 undef)), (500002, .hold (.ptr 2 0) (T5.getD 2 undef)), (500005, .hold (.l TRecipient.pc a0) (T5.getD 5 undef)), (500006, .hold (.i ((a0.length : Int))) (T5.getD 6 undef)), (500007, .hold (.i s1) (T5.getD 7 undef)), (500003, .hold (.i s1) (T5.getD 3 undef)), (2, .cells [.i 0, .i 0])] (.inr rfl) rfl rfl rfl rfl ?_
       cases hr
       exact jump6 _ _ rfl rfl
      ·
       refine rn tk 2 rfl ?_
       refine ie tk [.i b24] [] [(599999, .sus g0.w.heap.size ds5), (500000, .hold (.l TRecipient.pc a0) (T5.getD 0 undef)), (500002, .hold (.ptr 2 0) (T5.getD 2 undef)), (500005, .hold (.l TRecipient.pc a0) (T5.getD 5 undef)), (500006, .hold (.i ((a0.length : Int))) (T5.getD 6 undef)), (500007, .hold (.i s1) (T5.getD 7 undef)), (500003, .hold (.i s1) (T5.getD 3 undef)), (2, .cells [.i 0, .i 0])] (.inr rfl) rfl rfl rfl rfl ?_
       cases hr
       exact jump6 _ _ rfl rfl
     ·
      refine rn tk 5 rfl ?_
      refine ie tk [.bo (decide (0 ≤ j21))] [(0, .l TRecipient.pc a0), (2, .ptr 2 0), (3, .i s1), (5, .l TRecipient.pc a0), (6, .i ((a0.length : Int))), (7, .i s1)] [(2, .cells [.i 0, .i 0])] (.inr rfl) rfl rfl rfl rfl (hO ?_)
      refine rn tk 3 rfl ?_
      refine ac 26 hr rfl (fun c31 hr => ?_) (fun c31 hr => ?_)
      ·
       refine rn tk 3 rfl ?_
       obtain ⟨v32, h33, hr⟩ := bind_some hr
       refine cl (basic_Fault_run _ _ _ h33) rfl rfl ?_
       refine rn tk 7 rfl ?_
       cases hr
       exact ato rfl rfl rfl rfl
      ·
       refine rn tk 8 rfl ?_
       cases hr
       exact atc rfl rfl
  ·
   refine rn tk 2 rfl ?_
   cases hr
   exact ato rfl rfl rfl rfl
 ·
  refine rn tk 4 rfl ?_
  obtain ⟨v34, h35, hr⟩ := bind_some hr
  refine cl (basic_None_run _ h35) rfl rfl ?_
  refine rn tk 4 rfl ?_
  cases hr
  exact kr tk (.inr rfl) rfl rfl
 ·
  refine rn tk 2 rfl ?_
  cases hr
  exact kr tk (.inr rfl) rfl rfl
theorem envelope_Validate_run (a0 : TEnvelope) (r : TFault) (hr : envelope_Validate a0 = some r) : Run Tryz.prog 57 [.agg [.s a0.From, .l TRecipient.pc a0.To, .s a0.Id]] (.agg [.i r.Code, .i r.Index]) := by
 unfold envelope_Validate at hr
 refine rf (fn := Tryz.f57) ⟨Tryz.func57, rfl, by kernel_rfl⟩ rfl (fun _ => rfl) fun g0 hg => ?_
 refine rn tk 8 rfl ?_
 refine jb hr (fun j1 => [(1, .ptr 1 0), (2, .ptr 2 0), (3, .bo j1)]) (fun j1 => [(2, .cells [.i 0, .i 0]), (1, .cells [.s a0.From, .l TRecipient.pc a0.To, .s a0.Id])]) (fun j1 hr => ?_) (fun j1 hr => ?_)
 ·
  refine rn tk 5 rfl ?_
  refine bs 7 hr rfl (fun c2 hr => ?_) (fun c2 hr => ?_)
  ·
   refine rn tk 2 rfl ?_
   obtain ⟨v3, h4, hr⟩ := bind_some hr
   refine ug rfl rfl rfl ?_
   refine cl (envelope_Address_run _ _ h4) rfl rfl ?_
   refine rn tk 4 rfl ?_
   cases hr
   exact jn _ rfl rfl rfl
  ·
   refine rn tk 7 rfl ?_
   cases hr
   exact jn _ rfl rfl rfl
 ·
  refine ac 3 hr rfl (fun c5 hr => ?_) (fun c5 hr => ?_)
  ·
   refine rn tk 2 rfl ?_
   obtain ⟨v6, h7, hr⟩ := bind_some hr
   refine cl (basic_Fault_run _ _ _ h7) rfl rfl ?_
   refine rn tk 6 rfl ?_
   cases hr
   exact kr tk (.inr rfl) rfl rfl
  ·
   refine jb hr (fun j8 => [(1, .ptr 1 0), (2, .ptr 2 0), (14, .bo j8)]) (fun j8 => [(2, .cells [.i 0, .i 0]), (1, .cells [.s a0.From, .l TRecipient.pc a0.To, .s a0.Id])]) (fun j8 hr => ?_) (fun j8 hr => ?_)
   ·
    refine rn tk 3 rfl ?_
    refine wn tk rfl rfl rfl ?_
    refine rn tk 2 rfl ?_
    refine bs 19 hr rfl (fun c9 hr => ?_) (fun c9 hr => ?_)
    ·
     refine rn tk 7 rfl ?_
     cases hr
     exact jn _ rfl rfl rfl
    ·
     refine rn tk 2 rfl ?_
     refine ug rfl rfl rfl ?_
     refine wn tk rfl rfl rfl ?_
     refine rn tk 4 rfl ?_
     cases hr
     exact jn _ rfl rfl rfl
   ·
    refine ac 14 hr rfl (fun c10 hr => ?_) (fun c10 hr => ?_)
    ·
     refine rn tk 2 rfl ?_
     obtain ⟨v11, h12, hr⟩ := bind_some hr
     refine cl (basic_Fault_run _ _ _ h12) rfl rfl ?_
     refine rn tk 6 rfl ?_
     cases hr
     exact kr tk (.inr rfl) rfl rfl
    ·
     refine jb hr (fun j13 => [(1, .ptr 1 0), (2, .ptr 2 0), (26, .bo j13)]) (fun j13 => [(2, .cells [.i 0, .i 0]), (1, .cells [.s a0.From, .l TRecipient.pc a0.To, .s a0.Id])]) (fun j13 hr => ?_) (fun j13 hr => ?_)
     ·
      refine rn tk 5 rfl ?_
      refine bs 30 hr rfl (fun c14 hr => ?_) (fun c14 hr => ?_)
      ·
       refine rn tk 2 rfl ?_
       obtain ⟨v15, h16, hr⟩ := bind_some hr
       refine ug rfl rfl rfl ?_
       refine cl (basic_Name_run _ _ h16) rfl rfl ?_
       refine rn tk 4 rfl ?_
       cases hr
       exact jn _ rfl rfl rfl
      ·
       refine rn tk 7 rfl ?_
       cases hr
       exact jn _ rfl rfl rfl
     ·
      refine ac 26 hr rfl (fun c17 hr => ?_) (fun c17 hr => ?_)
      ·
       refine rn tk 2 rfl ?_
       obtain ⟨v18, h19, hr⟩ := bind_some hr
       refine cl (basic_Fault_run _ _ _ h19) rfl rfl ?_
       refine rn tk 6 rfl ?_
       cases hr
       exact kr tk (.inr rfl) rfl rfl
      ·
       refine rn tk 7 rfl ?_
       obtain ⟨v20, h21, hr⟩ := bind_some hr
       refine cl (envelope_Recipients_run _ _ h21) rfl rfl ?_
       refine rn tk 4 rfl ?_
       cases hr
       exact kr tk (.inr rfl) rfl rfl
theorem fold_name_run (a0 : Str) (r : Bool) (hr : fold_name a0 = some r) : Run Tryz.prog 104 [.s a0] (.bo r) := by
 unfold fold_name at hr
 refine rf (fn := Tryz.f104) ⟨Tryz.func104, rfl, by kernel_rfl⟩ rfl (fun _ => rfl) fun g0 hg => ?_
 refine rn tk 5 rfl ?_
 refine jb hr (fun j1 => [(2, .bo j1)]) (fun j1 => []) (fun j1 hr => ?_) (fun j1 hr => ?_)
 ·
  refine rn tk 4 rfl ?_
  refine bs 5 hr rfl (fun c2 hr => ?_) (fun c2 hr => ?_)
  ·
   refine rn tk 5 rfl ?_
   refine bs 10 hr rfl (fun c3 hr => ?_) (fun c3 hr => ?_)
   ·
    refine rn tk 1 rfl ?_
    refine ug rfl rfl rfl ?_
    refine ct hr (fun j4 => [(10, .bo true), (12, .bo j4)]) (fun j4 => []) (fun j4 hr jump4 => ?_) (fun j4 hr => ?_)
    ·
     refine il (fn := Tryz.f77) (args := [.s a0, .fn (.func 112) [] []]) 400000 499999 [(10, .bo true)] rfl ⟨Tryz.func77, rfl, by kernel_rfl⟩ rfl rfl rfl fun T4 ds4 => ?_
     refine rn tk 14 rfl ?_
     refine al2 hr (fun s5 => [(0, .s a0), (1, .fn (.func 112) [] []), (7, .i ((a0.length : Int))), (8, .i s5)]) (fun s5 => [(499999, .sus g0.w.heap.size ds4), (400010, .hold (.bo true) (T4.getD 10 undef))]) (.exit 0) (fun b6 => []) (fun b6 => [(499999, .sus g0.w.heap.size ds4), (400010, .hold (.bo true) (T4.getD 10 undef))]) .ret (fun b7 => [(4, .bo false)]) (fun b7 => [(499999, .sus g0.w.heap.size ds4), (400010, .hold (.bo true) (T4.getD 10 undef))]) rfl rfl (fun s5 x9 hr => ?_) (fun b6 hr => ?_) (fun b7 hr => ?_)
     ·
      unfold fold_name_l1 at hr
      refine rn tk 6 rfl ?_
      refine ac 9 hr rfl (fun c10 hr => ?_) (fun c10 hr => ?_)
      ·
       refine rn tk 15 rfl ?_
       obtain ⟨v11, h12, hr⟩ := bind_some hr
       refine ws tk h12 rfl rfl rfl rfl ?_
       refine il (fn := Tryz.f112) (args := [.u8 v11]) 600000 699999 [(0, .s a0), (1, .fn (.func 112) [] []), (7, .i ((a0.length : Int))), (8, .i s5)] rfl ⟨Tryz.func112, rfl, by kernel_rfl⟩ rfl rfl rfl fun T6 ds6 => ?_
       refine rn tk 5 rfl ?_
       refine jb hr (fun j13 => [(2, .bo j13)]) (fun j13 => [(699999, .sus g0.w.heap.size ds6), (600000, .hold (.s a0) (T6.getD 0 undef)), (600001, .hold (.fn (.func 112) [] []) (T6.getD 1 undef)), (600007, .hold (.i ((a0.length : Int))) (T6.getD 7 undef)), (600008, .hold (.i s5) (T6.getD 8 undef)), (499999, .sus g0.w.heap.size ds4), (400010, .hold (.bo true) (T4.getD 10 undef))]) (fun j13 hr => ?_) (fun j13 hr => ?_)
       ·
        refine rn tk 4 rfl ?_
        refine bs 5 hr rfl (fun c14 hr => ?_) (fun c14 hr => ?_)
        ·
         refine rn tk 4 rfl ?_
         refine bs 9 hr rfl (fun c15 hr => ?_) (fun c15 hr => ?_)
         ·
          refine rn tk 5 rfl ?_
          cases hr
          exact jn _ rfl rfl rfl
         ·
          refine rn tk 5 rfl ?_
          cases hr
          exact jn _ rfl rfl rfl
        ·
         refine rn tk 9 rfl ?_
         cases hr
         exact jn _ rfl rfl rfl
       ·
        refine rn tk 1 rfl ?_
        refine ie tk [.bo j13] [(0, .s a0), (1, .fn (.func 112) [] []), (7, .i ((a0.length : Int))), (8, .i s5)] [(499999, .sus g0.w.heap.size ds4), (400010, .hold (.bo true) (T4.getD 10 undef))] (.inr rfl) rfl rfl rfl rfl (hO ?_)
        refine rn tk 3 rfl ?_
        refine ac 16 hr rfl (fun c16 hr => ?_) (fun c16 hr => ?_)
        ·
         refine rn tk 8 rfl ?_
         cases hr
         exact ato rfl rfl rfl rfl
        ·
         refine rn tk 7 rfl ?_
         cases hr
         exact atc rfl rfl
      ·
       refine rn tk 2 rfl ?_
       cases hr
       exact ato rfl rfl rfl rfl
     ·
      refine rn tk 8 rfl ?_
      refine ie tk [.bo true] [(10, .bo true)] [] (.inr rfl) rfl rfl rfl rfl ?_
      cases hr
      exact jump4 _ _ rfl rfl
     ·
      refine rn tk 2 rfl ?_
      refine ie tk [.bo false] [(10, .bo true)] [] (.inr rfl) rfl rfl rfl rfl ?_
      cases hr
      exact jump4 _ _ rfl rfl
    ·
     refine rn tk 3 rfl ?_
     cases hr
     exact jn _ rfl rfl rfl
   ·
    refine rn tk 5 rfl ?_
    cases hr
    exact jn _ rfl rfl rfl
  ·
   refine rn tk 10 rfl ?_
   cases hr
   exact jn _ rfl rfl rfl
 ·
  refine rn tk 1 rfl ?_
  cases hr
  exact kr tk (.inr rfl) rfl rfl
theorem basic_Blank_run (a0 : UInt8) (r : Bool) (hr : basic_Blank a0 = some r) : Run Tryz.prog 114 [.u8 a0] (.bo r) := by
 unfold basic_Blank at hr
 refine rf (fn := Tryz.f114) ⟨Tryz.func114, rfl, by kernel_rfl⟩ rfl (fun _ => rfl) fun g0 hg => ?_
 refine rn tk 5 rfl ?_
 refine jb hr (fun j1 => [(2, .bo j1)]) (fun j1 => []) (fun j1 hr => ?_) (fun j1 hr => ?_)
 ·
  refine rn tk 4 rfl ?_
  refine bs 5 hr rfl (fun c2 hr => ?_) (fun c2 hr => ?_)
  ·
   refine rn tk 5 rfl ?_
   cases hr
   exact jn _ rfl rfl rfl
  ·
   refine rn tk 5 rfl ?_
   cases hr
   exact jn _ rfl rfl rfl
 ·
  refine rn tk 1 rfl ?_
  cases hr
  exact kr tk (.inr rfl) rfl rfl
theorem fold_point_run (a0 : Str) (a1 : Int) (r : Int) (hr : fold_point a0 a1 = some r) : Run Tryz.prog 106 [.s a0, .i a1] (.i r) := by
 unfold fold_point at hr
 refine rf (fn := Tryz.f106) ⟨Tryz.func106, rfl, by kernel_rfl⟩ rfl (fun _ => rfl) fun g0 hg => ?_
 refine rn tk 14 rfl ?_
 refine wq (ev_max rfl rfl) rfl rfl rfl ?_
 refine rn tk 4 rfl ?_
 refine al1 hr (fun s1 => [(0, .s a0), (5, .i s1.1), (6, .i s1.2)]) (fun s1 => []) (.exit 0) (fun b2 => [(5, .i b2)]) (fun b2 => []) rfl rfl (fun s1 x3 hr => ?_) (fun b2 hr => ?_)
 ·
  unfold fold_point_l1 at hr
  refine rn tk 9 rfl ?_
  refine ac 12 hr rfl (fun c4 hr => ?_) (fun c4 hr => ?_)
  ·
   refine rn tk 2 rfl ?_
   refine jk (fun j5 => [(0, .s a0), (5, .i j5), (6, .i s1.2)]) (fun j5 => []) (fun j5 => fold_point_k2 s1 j5 = some x3) ?_ ?_
   ·
    refine rn tk 2 rfl ?_
    refine jb hr (fun j6 => [(0, .s a0), (5, .i s1.1), (6, .i s1.2), (26, .bo j6)]) (fun j6 => []) (fun j6 hr => ?_) (fun j6 hr => ?_)
    ·
     refine rn tk 3 rfl ?_
     obtain ⟨v7, h8, hr⟩ := bind_some hr
     refine ws tk h8 rfl rfl rfl rfl ?_
     obtain ⟨v9, h10, hr⟩ := bind_some hr
     refine cl (basic_Blank_run _ _ h10) rfl rfl ?_
     refine rn tk 2 rfl ?_
     refine bs 20 hr rfl (fun c11 hr => ?_) (fun c11 hr => ?_)
     ·
      refine rn tk 7 rfl ?_
      cases hr
      exact jn _ rfl rfl rfl
     ·
      refine rn tk 3 rfl ?_
      obtain ⟨v12, h13, hr⟩ := bind_some hr
      refine ug rfl rfl rfl ?_
      refine ws tk h13 rfl rfl rfl rfl ?_
      obtain ⟨v14, h15, hr⟩ := bind_some hr
      refine ug rfl rfl rfl ?_
      refine cl (basic_Blank_run _ _ h15) rfl rfl ?_
      refine rn tk 2 rfl ?_
      cases hr
      exact jn _ rfl rfl rfl
    ·
     refine ac 26 hr rfl (fun c16 hr => ?_) (fun c16 hr => ?_)
     ·
      refine rn tk 3 rfl ?_
      exact jn s1.1 hr rfl rfl
     ·
      refine rn tk 3 rfl ?_
      refine jb hr (fun j17 => [(0, .s a0), (5, .i s1.1), (6, .i s1.2), (32, .bo j17)]) (fun j17 => []) (fun j17 hr => ?_) (fun j17 hr => ?_)
      ·
       refine rn tk 4 rfl ?_
       refine bs 29 hr rfl (fun c18 hr => ?_) (fun c18 hr => ?_)
       ·
        refine rn tk 4 rfl ?_
        cases hr
        exact jn _ rfl rfl rfl
       ·
        refine rn tk 4 rfl ?_
        cases hr
        exact jn _ rfl rfl rfl
      ·
       refine ac 32 hr rfl (fun c19 hr => ?_) (fun c19 hr => ?_)
       ·
        refine rn tk 4 rfl ?_
        cases hr
        exact ato rfl rfl rfl rfl
       ·
        refine rn tk 7 rfl ?_
        exact jn s1.2 hr rfl rfl
   ·
    intro j5 hr
    unfold fold_point_k2 at hr
    refine rn tk 5 rfl ?_
    cases hr
    exact atc rfl rfl
  ·
   refine rn tk 2 rfl ?_
   cases hr
   exact ato rfl rfl rfl rfl
 ·
  refine rn tk 9 rfl ?_
  cases hr
  exact kr tk (.inr rfl) rfl rfl
theorem unicode_utf8_ValidRune_run (a0 : Int) (r : Bool) (hr : unicode_utf8_ValidRune a0 = some r) : Run Tryz.prog 125 [.pv (.b (.int .i32 a0))] (.bo r) := by
 unfold unicode_utf8_ValidRune at hr
 refine rf (fn := Tryz.f125) ⟨Tryz.func125, rfl, by kernel_rfl⟩ rfl (fun _ => rfl) fun g0 hg => ?_
 refine rn tk 7 rfl ?_
 refine jb hr (fun j1 => [(0, .pv (.b (.int .i32 a0))), (3, .bo j1)]) (fun j1 => []) (fun j1 hr => ?_) (fun j1 hr => ?_)
 ·
  refine rn tk 4 rfl ?_
  refine bs 6 hr rfl (fun c2 hr => ?_) (fun c2 hr => ?_)
  ·
   refine rn tk 5 rfl ?_
   cases hr
   exact jn _ rfl rfl rfl
  ·
   refine rn tk 5 rfl ?_
   cases hr
   exact jn _ rfl rfl rfl
 ·
  refine ac 3 hr rfl (fun c3 hr => ?_) (fun c3 hr => ?_)
  ·
   refine rn tk 8 rfl ?_
   cases hr
   exact kr tk (.inr rfl) rfl rfl
  ·
   refine jb hr (fun j4 => [(10, .bo j4)]) (fun j4 => []) (fun j4 hr => ?_) (fun j4 hr => ?_)
   ·
    refine rn tk 4 rfl ?_
    refine bs 13 hr rfl (fun c5 hr => ?_) (fun c5 hr => ?_)
    ·
     refine rn tk 5 rfl ?_
     cases hr
     exact jn _ rfl rfl rfl
    ·
     refine rn tk 5 rfl ?_
     cases hr
     exact jn _ rfl rfl rfl
   ·
    refine ac 10 hr rfl (fun c6 hr => ?_) (fun c6 hr => ?_)
    ·
     refine rn tk 8 rfl ?_
     cases hr
     exact kr tk (.inr rfl) rfl rfl
    ·
     refine rn tk 9 rfl ?_
     cases hr
     exact kr tk (.inr rfl) rfl rfl
theorem strings_IndexRune_run (a0 : Str) (a1 : Int) (r : Int) (hr : strings_IndexRune a0 a1 = some r) : Run Tryz.prog 121 [.s a0, .pv (.b (.int .i32 a1))] (.i r) := by
 unfold strings_IndexRune at hr
 refine rf (fn := Tryz.f121) ⟨Tryz.func121, rfl, by kernel_rfl⟩ rfl (fun _ => rfl) fun g0 hg => ?_
 refine rn tk 6 rfl ?_
 refine jb hr (fun j1 => [(0, .s a0), (1, .pv (.b (.int .i32 a1))), (160, .bo j1)]) (fun j1 => []) (fun j1 hr => ?_) (fun j1 hr => ?_)
 ·
  refine rn tk 4 rfl ?_
  refine bs 163 hr rfl (fun c2 hr => ?_) (fun c2 hr => ?_)
  ·
   refine rn tk 5 rfl ?_
   cases hr
   exact jn _ rfl rfl rfl
  ·
   refine rn tk 5 rfl ?_
   cases hr
   exact jn _ rfl rfl rfl
 ·
  refine ac 160 hr rfl (fun c3 hr => ?_) (fun c3 hr => ?_)
  ·
   refine rn tk 5 rfl ?_
   obtain ⟨v4, h5, hr⟩ := bind_some hr
   refine cl (strings_IndexByte_run _ _ _ h5) rfl rfl ?_
   refine rn tk 5 rfl ?_
   cases hr
   exact kr tk (.inr rfl) rfl rfl
  ·
   refine rn tk 7 rfl ?_
   refine ac 171 hr rfl (fun c6 hr => ?_) (fun c6 hr => ?_)
   ·
    refine rn tk 4 rfl ?_
    refine wr 1175 tk rfl rfl rfl rfl ?_
    refine rn tk 3 rfl ?_
    refine al2 hr (fun s7 => [(175, .ptr 1175 0)]) (fun s7 => [(1175, .it (strB a0) s7)]) (.exit 9) (fun b8 => []) (fun b8 => []) .ret (fun b9 => [(4, .i b9)]) (fun b9 => []) rfl rfl (fun s7 x11 hr => ?_) (fun b8 hr => ?_) (fun b9 hr => ?_)
    ·
     unfold strings_IndexRune_l1 at hr
     refine rn tk 2 rfl ?_
     refine wnx hr rfl rfl rfl (fun c12 hr => ?_) (fun c12 hr => ?_)
     ·
      refine rn tk 22 rfl ?_
      refine ac 181 hr rfl (fun c13 hr => ?_) (fun c13 hr => ?_)
      ·
       refine rn tk 8 rfl ?_
       cases hr
       exact ato rfl rfl rfl rfl
      ·
       refine rn tk 2 rfl ?_
       cases hr
       exact atc rfl rfl
     ·
      refine rn tk 7 rfl ?_
      cases hr
      exact ato rfl rfl rfl rfl
    ·
     refine rn tk 9 rfl ?_
     cases hr
     exact kr tk (.inr rfl) rfl rfl
    ·
     refine rn tk 3 rfl ?_
     cases hr
     exact kr tk (.inr rfl) rfl rfl
   ·
    refine rn tk 3 rfl ?_
    obtain ⟨v14, h15, hr⟩ := bind_some hr
    refine cl (unicode_utf8_ValidRune_run _ _ h15) rfl rfl ?_
    refine rn tk 4 rfl ?_
    refine ac 183 hr rfl (fun c16 hr => ?_) (fun c16 hr => ?_)
    ·
     refine rn tk 7 rfl ?_
     cases hr
     exact kr tk (.inr rfl) rfl rfl
    ·
     refine rn tk 29 rfl ?_
     refine al2 hr (fun s17 => [(0, .s a0), (7, .s ((runeS a1))), (8, .i ((w64 ((((runeS a1)).length : Int) - 1)))), (9, .i s17)]) (fun s17 => []) (.exit 1) (fun b18 => []) (fun b18 => []) .ret (fun b19 => [(4, .i b19)]) (fun b19 => []) rfl rfl (fun s17 x21 hr => ?_) (fun b18 hr => ?_) (fun b19 hr => ?_)
     ·
      unfold strings_IndexRune_l2 at hr
      refine rn tk 9 rfl ?_
      refine ac 26 hr rfl (fun c22 hr => ?_) (fun c22 hr => ?_)
      ·
       refine rn tk 4 rfl ?_
       refine jk (fun j23 => [(0, .s a0), (7, .s ((runeS a1))), (8, .i j23.1), (9, .i j23.2)]) (fun j23 => []) (fun j23 => strings_IndexRune_k3 a0 a1 j23 = some x21) ?_ ?_
       ·
        refine rn tk 1 rfl ?_
        obtain ⟨v24, h25, hr⟩ := bind_some hr
        obtain ⟨v26, h27, hr⟩ := bind_some hr
        refine dr 6 [(32, .u8 v26), (31, .i ((w64 ((((runeS a1)).length : Int) - 1)))), (30, .s ((runeS a1))), (29, .u8 v24), (28, .i s17), (27, .s a0)] mixed (by kernel_rfl) rfl rfl (pq tk rfl (.plain rfl) (pq tk rfl (.plain rfl) (.run (.plain rfl) (opG_q (ev_sidx rfl rfl ty_string h25)) (pq tk rfl (.plain rfl) (pq tk rfl (.plain rfl) (.run (.plain rfl) (opG_q (ev_sidx rfl rfl ty_string h27)) .nil)))))) rfl ?_
        refine rn tk 3 rfl ?_
        refine ac 33 hr rfl (fun c28 hr => ?_) (fun c28 hr => ?_)
        ·
         refine rn tk 1 rfl ?_
         obtain ⟨v29, h30, hr⟩ := bind_some hr
         obtain ⟨v31, h32, hr⟩ := bind_some hr
         refine dr 7 [(40, .u8 v31), (39, .i ((w64 ((((runeS a1)).length : Int) - 1)))), (38, .s ((runeS a1))), (37, .s v29), (36, .i ((w64 (s17 + 1)))), (35, .i s17), (34, .s a0)] mixed (by kernel_rfl) rfl rfl (pq tk rfl (.plain rfl) (pq tk rfl (.plain rfl) (pq tk rfl (.plain rfl) (.run (.plain rfl) (opG_q (ev_scutL rfl rfl ty_string h30)) (pq tk rfl (.plain rfl) (pq tk rfl (.plain rfl) (.run (.plain rfl) (opG_q (ev_sidx rfl rfl ty_string h32)) .nil))))))) rfl ?_
         obtain ⟨v33, h34, hr⟩ := bind_some hr
         refine cl (strings_IndexByte_run _ _ _ h34) rfl rfl ?_
         refine rn tk 10 rfl ?_
         refine ac 43 hr rfl (fun c35 hr => ?_) (fun c35 hr => ?_)
         ·
          refine rn tk 10 rfl ?_
          cases hr
          exact ato rfl rfl rfl rfl
         ·
          refine rn tk 9 rfl ?_
          exact jn (((w64 ((((runeS a1)).length : Int) - 1)), (w64 (s17 + (w64 (v33 + 1)))))) hr rfl rfl
        ·
         refine rn tk 1 rfl ?_
         exact jn (((w64 ((((runeS a1)).length : Int) - 1)), s17)) hr rfl rfl
       ·
        intro j23 hr
        unfold strings_IndexRune_k3 at hr
        refine rn tk 7 rfl ?_
        refine al1 hr (fun s36 => [(0, .s a0), (7, .s ((runeS a1))), (8, .i j23.1), (9, .i j23.2), (12, .i s36)]) (fun s36 => []) (.exit 3) (fun b37 => [(8, .i j23.1), (9, .i j23.2)]) (fun b37 => []) rfl rfl (fun s36 x38 hr => ?_) (fun b37 hr => ?_)
        ·
         unfold strings_IndexRune_l4 at hr
         refine rn tk 9 rfl ?_
         refine ac 51 hr rfl (fun c39 hr => ?_) (fun c39 hr => ?_)
         ·
          refine rn tk 5 rfl ?_
          obtain ⟨v40, h41, hr⟩ := bind_some hr
          obtain ⟨v42, h43, hr⟩ := bind_some hr
          refine dr 10 [(63, .u8 v42), (62, .i ((w64 (j23.1 - s36)))), (61, .i s36), (60, .i j23.1), (59, .s ((runeS a1))), (58, .u8 v40), (57, .i ((w64 (j23.2 - s36)))), (56, .i s36), (55, .i j23.2), (54, .s a0)] mixed (by kernel_rfl) rfl rfl (pq tk rfl (.plain rfl) (pq tk rfl (.plain rfl) (pq tk rfl (.plain rfl) (pq tk rfl (.plain rfl) (.run (.plain rfl) (opG_q (ev_sidx rfl rfl ty_string h41)) (pq tk rfl (.plain rfl) (pq tk rfl (.plain rfl) (pq tk rfl (.plain rfl) (pq tk rfl (.plain rfl) (.run (.plain rfl) (opG_q (ev_sidx rfl rfl ty_string h43)) .nil)))))))))) rfl ?_
          refine rn tk 3 rfl ?_
          refine ac 64 hr rfl (fun c44 hr => ?_) (fun c44 hr => ?_)
          ·
           cases hr
          ·
           refine rn tk 8 rfl ?_
           cases hr
           exact atc rfl rfl
         ·
          refine rn tk 2 rfl ?_
          cases hr
          exact ato rfl rfl rfl rfl
        ·
         refine rn tk 15 rfl ?_
         cases hr
         exact ato rfl rfl rfl rfl
      ·
       refine rn tk 2 rfl ?_
       cases hr
       exact ato rfl rfl rfl rfl
     ·
      refine rn tk 12 rfl ?_
      cases hr
      exact kr tk (.inr rfl) rfl rfl
     ·
      refine rn tk 4 rfl ?_
      cases hr
      exact kr tk (.inr rfl) rfl rfl
theorem strings_shouldUseASCIISet_run (a0 : Int) (r : Bool) (hr : strings_shouldUseASCIISet a0 = some r) : Run Tryz.prog 122 [.i a0] (.bo r) := by
 unfold strings_shouldUseASCIISet at hr
 refine rf (fn := Tryz.f122) ⟨Tryz.func122, rfl, by kernel_rfl⟩ rfl (fun _ => rfl) fun g0 hg => ?_
 refine rn tk 13 rfl ?_
 cases hr
 exact kr tk (.inr rfl) rfl rfl
theorem strings_IndexAnyP_run (a0 : Str) (a1 : Str) (r : Int) (hr : strings_IndexAnyP a0 a1 = some r) : Run Tryz.prog 120 [.s a0, .s a1] (.i r) := by
 unfold strings_IndexAnyP at hr
 refine rf (fn := Tryz.f120) ⟨Tryz.func120, rfl, by kernel_rfl⟩ rfl (fun _ => rfl) fun g0 hg => ?_
 refine rn tk 12 rfl ?_
 refine ac 12 hr rfl (fun c1 hr => ?_) (fun c1 hr => ?_)
 ·
  refine rn tk 7 rfl ?_
  cases hr
  exact kr tk (.inr rfl) rfl rfl
 ·
  refine rn tk 10 rfl ?_
  refine ac 15 hr rfl (fun c2 hr => ?_) (fun c2 hr => ?_)
  ·
   refine rn tk 3 rfl ?_
   obtain ⟨v3, h4, hr⟩ := bind_some hr
   refine ws tk h4 rfl rfl rfl rfl ?_
   refine wur tk rfl rfl rfl ?_
   refine rn tk 3 rfl ?_
   refine jb hr (fun j5 => [(0, .s a0), (5, .pv (.b (.int .i32 j5)))]) (fun j5 => []) (fun j5 hr => ?_) (fun j5 hr => ?_)
   ·
    refine rn tk 6 rfl ?_
    refine ac 20 hr rfl (fun c6 hr => ?_) (fun c6 hr => ?_)
    ·
     refine rn tk 3 rfl ?_
     cases hr
     exact jn _ rfl rfl rfl
    ·
     refine rn tk 1 rfl ?_
     cases hr
     exact jn _ rfl rfl rfl
   ·
    refine rn tk 4 rfl ?_
    obtain ⟨v7, h8, hr⟩ := bind_some hr
    refine cl (strings_IndexRune_run _ _ _ h8) rfl rfl ?_
    refine rn tk 5 rfl ?_
    cases hr
    exact kr tk (.inr rfl) rfl rfl
  ·
   refine rn tk 7 rfl ?_
   obtain ⟨v9, h10, hr⟩ := bind_some hr
   refine cl (strings_shouldUseASCIISet_run _ _ h10) rfl rfl ?_
   refine rn tk 2 rfl ?_
   refine ac 26 hr rfl (fun c11 hr => ?_) (fun c11 hr => ?_)
   ·
    refine rn tk 3 rfl ?_
    cases hr
   ·
    refine rn tk 6 rfl ?_
    refine wr 1045 tk rfl rfl rfl rfl ?_
    refine rn tk 3 rfl ?_
    refine al2 hr (fun s12 => [(1, .s a1), (45, .ptr 1045 0)]) (fun s12 => [(1045, .it (strB a0) s12)]) (.exit 2) (fun b13 => []) (fun b13 => []) .ret (fun b14 => [(4, .i b14)]) (fun b14 => []) rfl rfl (fun s12 x16 hr => ?_) (fun b13 hr => ?_) (fun b14 hr => ?_)
    ·
     unfold strings_IndexAnyP_l1 at hr
     refine rn tk 2 rfl ?_
     refine wnx hr rfl rfl rfl (fun c17 hr => ?_) (fun c17 hr => ?_)
     ·
      refine rn tk 20 rfl ?_
      obtain ⟨v18, h19, hr⟩ := bind_some hr
      refine cl (strings_IndexRune_run _ _ _ h19) rfl rfl ?_
      refine rn tk 3 rfl ?_
      refine ac 53 hr rfl (fun c20 hr => ?_) (fun c20 hr => ?_)
      ·
       refine rn tk 8 rfl ?_
       cases hr
       exact ato rfl rfl rfl rfl
      ·
       refine rn tk 2 rfl ?_
       cases hr
       exact atc rfl rfl
     ·
      refine rn tk 7 rfl ?_
      cases hr
      exact ato rfl rfl rfl rfl
    ·
     refine rn tk 8 rfl ?_
     cases hr
     exact kr tk (.inr rfl) rfl rfl
    ·
     refine rn tk 2 rfl ?_
     cases hr
     exact kr tk (.inr rfl) rfl rfl
end Go.Proofs.YtfhfjckjmacekaaGreat

/- Library functions compute what their Lean functions do. -/
namespace Go.Proofs.YtfhfjckjmacekaaGreat
open Go.RowKit
set_option maxRecDepth 100000
theorem old_allocL (g : G) (vs : Array Value) (t : TypeId) : Old (fun _ => False) g ⟨g.w.alloc (.cells vs t), fun k => if k = g.w.heap.size then 0 else g.u k, g.loc⟩ := by
  have h := old_alloc g vs t 0 0 (g.loc 0)
  have e : (g.alloc vs t 0 0 (g.loc 0)) = ⟨g.w.alloc (.cells vs t), fun k => if k = g.w.heap.size then 0 else g.u k, g.loc⟩ := by
    unfold G.alloc
    congr 1
    funext k
    split
    · rename_i hk; rw [hk]
    · rfl
  rw [← e]; exact h
theorem wf_allocL {g : G} (h : Wf g) (vs : Array Value) (t : TypeId) : Wf ⟨g.w.alloc (.cells vs t), fun k => if k = g.w.heap.size then 0 else g.u k, g.loc⟩ := by
  intro k hk
  have hk : g.w.heap.size + 1 ≤ k := by simpa using hk
  show (if k = g.w.heap.size then 0 else g.u k) = 0
  rw [if_neg (by omega)]
  exact h k (by omega)
theorem ascii_data {t : Str} (h : asciiL t = true) : ∀ (j : Nat) b, (strB t).data.toList[j]? = some b → b.toNat < 128 := fun j b hb => asciiL_mem h (List.mem_of_getElem? hb)
theorem strings_IndexAny_run (s t : Str) (r : Int) (hr : strings_IndexAny s t = some r) : Run Tryz.prog 120 [.s s, .s t] (.i r) := by
  unfold strings_IndexAny at hr
  split at hr
  case isFalse => cases hr
  rename_i hc
  obtain ⟨h1, h2, h3, h4⟩ := hc
  by_cases h8 : s.length ≤ 8
  · exact strings_IndexAnyP_run s t r (by rw [IndexAnyP_eq s t h8 h3 h2 h4]; exact hr)
  · cases hr
    refine ⟨⟨_, _, ⟨Tryz.func120, rfl, by kernel_rfl⟩⟩, fun g vs hw hg ha => ?_⟩
    obtain ⟨hsz, hrel⟩ := ha
    obtain ⟨l⟩ := vs
    match l, hsz with
    | [x, y], _ =>
      obtain rfl := str_arg (hrel 0 _ rfl)
      obtain rfl := str_arg (hrel 1 _ rfl)
      have h116 : (Tryz.prog.info? 131).map (fun i => (i.zero, i.size)) = some (some (.agg (Array.replicate 256 (.bool false))), 256) := by kernel_rfl
      have hz := (zero_of_info h116).1
      refine callsIn_wide.2 ((Tryz.strings_IndexAny_long hz (strB s) (strB t) g.w (by rw [strB_size]; exact h3) (by rw [strB_size]; omega) (by rw [strB_size]; exact h1) (by rw [strB_size]; exact h2) (ascii_data h4)).mono ?_)
      rintro e w' ⟨rfl, rfl⟩
      have o1 := old_allocL g (Lib.setCells t) 131
      have w1 := wf_allocL hw (Lib.setCells t) 131
      have o2 := old_allocL ⟨g.w.alloc (.cells (Lib.setCells t) 131), fun k => if k = g.w.heap.size then 0 else g.u k, g.loc⟩ (Lib.setCells t) 131
      have w2 := wf_allocL w1 (Lib.setCells t) 131
      have o3 : Old (fun _ => False) g _ := o1.trans (o2.mono (S' := fun b => False ∨ g.w.heap.size ≤ b) (by intro b _ hf; exact hf.elim))
      exact ⟨⟨_, _, _⟩, _, rfl, (by rfl), o3, w2, (by rfl), .pv (.b rfl)⟩
end Go.Proofs.YtfhfjckjmacekaaGreat

namespace Go.Proofs.YtfhfjckjmacekaaGreat
open Go.RowKit
set_option maxRecDepth 100000
set_option maxHeartbeats 40000000
set_option linter.unusedVariables false
theorem strings_ContainsAny_run (a0 : Str) (a1 : Str) (r : Bool) (hr : strings_ContainsAny a0 a1 = some r) : Run Tryz.prog 118 [.s a0, .s a1] (.bo r) := by
 unfold strings_ContainsAny at hr
 refine rf (fn := Tryz.f118) ⟨Tryz.func118, rfl, by kernel_rfl⟩ rfl (fun _ => rfl) fun g0 hg => ?_
 refine rn tk 9 rfl ?_
 obtain ⟨v1, h2, hr⟩ := bind_some hr
 refine cl (strings_IndexAny_run _ _ _ h2) rfl rfl ?_
 refine rn tk 5 rfl ?_
 cases hr
 exact kr tk (.inr rfl) rfl rfl
theorem fold_ends_run (a0 : Str) (r : Bool) (hr : fold_ends a0 = some r) : Run Tryz.prog 113 [.s a0] (.bo r) := by
 unfold fold_ends at hr
 refine rf (fn := Tryz.f113) ⟨Tryz.func113, rfl, by kernel_rfl⟩ rfl (fun _ => rfl) fun g0 hg => ?_
 refine rn tk 8 rfl ?_
 obtain ⟨v1, h2, hr⟩ := bind_some hr
 refine cl (strings_ContainsAny_run _ _ _ h2) rfl rfl ?_
 refine rn tk 4 rfl ?_
 cases hr
 exact kr tk (.inr rfl) rfl rfl
theorem fold_value_run (a0 : Str) (r : Bool) (hr : fold_value a0 = some r) : Run Tryz.prog 105 [.s a0] (.bo r) := by
 unfold fold_value at hr
 refine rf (fn := Tryz.f105) ⟨Tryz.func105, rfl, by kernel_rfl⟩ rfl (fun _ => rfl) fun g0 hg => ?_
 refine rn tk 5 rfl ?_
 refine jb hr (fun j1 => [(2, .bo j1)]) (fun j1 => []) (fun j1 hr => ?_) (fun j1 hr => ?_)
 ·
  refine rn tk 2 rfl ?_
  obtain ⟨v2, h3, hr⟩ := bind_some hr
  refine cl (fold_ends_run _ _ h3) rfl rfl ?_
  refine rn tk 2 rfl ?_
  refine bs 6 hr rfl (fun c4 hr => ?_) (fun c4 hr => ?_)
  ·
   refine rn tk 3 rfl ?_
   refine bs 9 hr rfl (fun c5 hr => ?_) (fun c5 hr => ?_)
   ·
    refine rn tk 17 rfl ?_
    cases hr
    exact jn _ rfl rfl rfl
   ·
    refine rn tk 1 rfl ?_
    obtain ⟨v6, h7, hr⟩ := bind_some hr
    refine ug rfl rfl rfl ?_
    refine ws tk h7 rfl rfl rfl rfl ?_
    obtain ⟨v8, h9, hr⟩ := bind_some hr
    refine ug rfl rfl rfl ?_
    refine cl (basic_Blank_run _ _ h9) rfl rfl ?_
    refine rn tk 2 rfl ?_
    refine bs 14 hr rfl (fun c10 hr => ?_) (fun c10 hr => ?_)
    ·
     refine rn tk 4 rfl ?_
     obtain ⟨v11, h12, hr⟩ := bind_some hr
     refine ug rfl rfl rfl ?_
     refine ws tk h12 rfl rfl rfl rfl ?_
     obtain ⟨v13, h14, hr⟩ := bind_some hr
     refine ug rfl rfl rfl ?_
     refine cl (basic_Blank_run _ _ h14) rfl rfl ?_
     refine rn tk 6 rfl ?_
     cases hr
     exact jn _ rfl rfl rfl
    ·
     refine rn tk 12 rfl ?_
     cases hr
     exact jn _ rfl rfl rfl
  ·
   refine rn tk 20 rfl ?_
   cases hr
   exact jn _ rfl rfl rfl
 ·
  refine rn tk 1 rfl ?_
  cases hr
  exact kr tk (.inr rfl) rfl rfl
theorem fold_Fold_run (a0 : Str) (a1 : Str) (r : (List Str) × TFault) (hr : fold_Fold a0 a1 = some r) : Run Tryz.prog 88 [.s a0, .s a1] (.tup [.l cS r.1, .agg [.i r.2.Code, .i r.2.Index]]) := by
 unfold fold_Fold at hr
 refine rf (fn := Tryz.f88) ⟨Tryz.func88, rfl, by kernel_rfl⟩ rfl (fun _ => rfl) fun g0 hg => ?_
 refine rn tk 11 rfl ?_
 obtain ⟨v1, h2, hr⟩ := bind_some hr
 refine cl (fold_name_run _ _ h2) rfl rfl ?_
 refine rn tk 4 rfl ?_
 refine ac 12 hr rfl (fun c3 hr => ?_) (fun c3 hr => ?_)
 ·
  refine rn tk 2 rfl ?_
  obtain ⟨v4, h5, hr⟩ := bind_some hr
  refine cl (basic_Fault_run _ _ _ h5) rfl rfl ?_
  refine rn tk 7 rfl ?_
  cases hr
  exact kr tk (.inr rfl) rfl rfl
 ·
  refine rn tk 8 rfl ?_
  refine ac 17 hr rfl (fun c6 hr => ?_) (fun c6 hr => ?_)
  ·
   refine rn tk 2 rfl ?_
   obtain ⟨v7, h8, hr⟩ := bind_some hr
   refine cl (basic_Fault_run _ _ _ h8) rfl rfl ?_
   refine rn tk 7 rfl ?_
   cases hr
   exact kr tk (.inr rfl) rfl rfl
  ·
   refine rn tk 3 rfl ?_
   obtain ⟨v9, h10, hr⟩ := bind_some hr
   refine cl (fold_value_run _ _ h10) rfl rfl ?_
   refine rn tk 4 rfl ?_
   refine ac 22 hr rfl (fun c11 hr => ?_) (fun c11 hr => ?_)
   ·
    refine rn tk 2 rfl ?_
    obtain ⟨v12, h13, hr⟩ := bind_some hr
    refine cl (basic_Fault_run _ _ _ h13) rfl rfl ?_
    refine rn tk 7 rfl ?_
    cases hr
    exact kr tk (.inr rfl) rfl rfl
   ·
    refine rn tk 6 rfl ?_
    obtain ⟨v14, h15, hr⟩ := bind_some hr
    refine wc h15 rfl rfl rfl ?_
    refine rn tk 1 rfl ?_
    obtain ⟨v16, h17, hr⟩ := bind_some hr
    refine wc h17 rfl rfl rfl ?_
    refine rn tk 10 rfl ?_
    refine awpl_adopt 1008 (d := 8) 9 1 rfl rfl rfl (hO ?_)
    refine rn tk 4 rfl ?_
    refine al1 hr (fun s18 => [(5, .ptr 5 0), (6, .s s18.1), (7, .i s18.2.1), (8, .hs 1008 0)]) (fun s18 => [(1008, .row 9 false 1 (List.map cS s18.2.2)), (5, .cells [.i 0, .i 0])]) (.exit 1) (fun b19 => [(5, .ptr 5 0), (6, .s b19.1), (8, .hs 1008 0)]) (fun b19 => [(1008, .row 9 false 1 (List.map cS b19.2)), (5, .cells [.i 0, .i 0])]) rfl rfl (fun s18 x20 hr => ?_) (fun b19 hr => ?_)
    ·
     unfold fold_Fold_l1 at hr
     refine rn tk 8 rfl ?_
     refine ac 36 hr rfl (fun c21 hr => ?_) (fun c21 hr => ?_)
     ·
      refine rn tk 7 rfl ?_
      obtain ⟨v22, h23, hr⟩ := bind_some hr
      refine cl (fold_point_run _ _ _ h23) rfl rfl ?_
      refine rn tk 10 rfl ?_
      refine ac 41 hr rfl (fun c24 hr => ?_) (fun c24 hr => ?_)
      ·
       refine rn tk 3 rfl ?_
       cases hr
       exact ato rfl rfl rfl rfl
      ·
       refine rn tk 7 rfl ?_
       obtain ⟨v25, h26, hr⟩ := bind_some hr
       refine wscH tk h26 rfl rfl rfl rfl ?_
       refine wz cS ([v25] : List Str) tk rfl rfl (fun _ => rfl) rfl rfl rfl ?_
       obtain ⟨v27, h28, hr⟩ := bind_some hr
       refine wa tk h28 rfl rfl rfl rfl (fun _ => rfl) rfl rfl ?_
       refine rn tk 6 rfl ?_
       obtain ⟨v29, h30, hr⟩ := bind_some hr
       refine wscL tk h30 rfl rfl rfl rfl ?_
       refine rn tk 4 rfl ?_
       cases hr
       exact atc rfl rfl
     ·
      refine rn tk 2 rfl ?_
      cases hr
      exact ato rfl rfl rfl rfl
    ·
     refine rn tk 6 rfl ?_
     refine wz cS ([b19.1] : List Str) tk rfl rfl (fun _ => rfl) rfl rfl rfl ?_
     obtain ⟨v31, h32, hr⟩ := bind_some hr
     refine wa tk h32 rfl rfl rfl rfl (fun _ => rfl) rfl rfl ?_
     refine rn tk 7 rfl ?_
     refine wnh tk rfl rfl rfl rfl ?_
     refine rn tk 4 rfl ?_
     refine awp_pub (d := 55) (F := cS) (l := v31) rfl rfl (hC ?_)
     refine al2 hr (fun s34 => [(5, .ptr 5 0), (8, .hs 1008 0), (55, .l cS v31), (56, .i ((v31.length : Int))), (57, .i s34)]) (fun s34 => [(1008, .row 9 false 1 (List.map cS v31)), (5, .cells [.i 0, .i 0])]) (.exit 3) (fun b35 => [(5, .ptr 5 0), (8, .hs 1008 0)]) (fun b35 => [(1008, .row 9 false 1 (List.map cS v31)), (5, .cells [.i 0, .i 0])]) .ret (fun b36 => [(4, .l cS b36.1), (5, .ptr 5 0)]) (fun b36 => [(5, .cells [.i b36.2.Code, .i b36.2.Index])]) rfl rfl (fun s34 x38 hr => ?_) (fun b35 hr => ?_) (fun b36 hr => ?_)
     ·
      unfold fold_Fold_l2 at hr
      refine rn tk 6 rfl ?_
      refine ac 58 hr rfl (fun c39 hr => ?_) (fun c39 hr => ?_)
      ·
       refine rn tk 7 rfl ?_
       obtain ⟨v40, h41, hr⟩ := bind_some hr
       refine wi tk h41 rfl rfl rfl rfl rfl ?_
       refine rn tk 12 rfl ?_
       refine ac 64 hr rfl (fun c42 hr => ?_) (fun c42 hr => ?_)
       ·
        refine rn tk 3 rfl ?_
        obtain ⟨v43, h44, hr⟩ := bind_some hr
        refine cl (basic_Fault_run _ _ _ h44) rfl rfl ?_
        refine rn tk 7 rfl ?_
        cases hr
        exact ato rfl rfl rfl rfl
       ·
        refine rn tk 7 rfl ?_
        cases hr
        exact atc rfl rfl
      ·
       refine rn tk 2 rfl ?_
       cases hr
       exact ato rfl rfl rfl rfl
     ·
      refine rn tk 5 rfl ?_
      obtain ⟨v45, h46, hr⟩ := bind_some hr
      refine cl (basic_None_run _ h46) rfl rfl ?_
      refine rn tk 4 rfl ?_
      refine awp_pub (d := 4) (F := cS) (l := v31) rfl rfl (hC ?_)
      refine rn tk 1 rfl ?_
      cases hr
      exact kr tk (.inr rfl) rfl rfl
     ·
      refine rn tk 2 rfl ?_
      cases hr
      exact kr tk (.inr rfl) rfl rfl
theorem header_Validate_run (a0 : List TField) (r : TFault) (hr : header_Validate a0 = some r) : Run Tryz.prog 64 [.l TField.pc a0] (.agg [.i r.Code, .i r.Index]) := by
 unfold header_Validate at hr
 refine rf (fn := Tryz.f64) ⟨Tryz.func64, rfl, by kernel_rfl⟩ rfl (fun _ => rfl) fun g0 hg => ?_
 refine rn tk 9 rfl ?_
 refine wn tk rfl rfl rfl ?_
 refine rn tk 3 rfl ?_
 refine ac 9 hr rfl (fun c1 hr => ?_) (fun c1 hr => ?_)
 ·
  refine rn tk 2 rfl ?_
  obtain ⟨v2, h3, hr⟩ := bind_some hr
  refine cl (basic_Fault_run _ _ _ h3) rfl rfl ?_
  refine rn tk 5 rfl ?_
  cases hr
  exact kr tk (.inr rfl) rfl rfl
 ·
  refine rn tk 6 rfl ?_
  refine wn tk rfl rfl rfl ?_
  refine rn tk 4 rfl ?_
  refine al2 hr (fun s4 => [(2, .ptr 2 0), (11, .l TField.pc a0), (12, .i ((a0.length : Int))), (13, .i s4)]) (fun s4 => [(2, .cells [.i 0, .i 0])]) (.exit 0) (fun b5 => [(2, .ptr 2 0)]) (fun b5 => [(2, .cells [.i 0, .i 0])]) .ret (fun b6 => [(2, .ptr 2 0)]) (fun b6 => [(2, .cells [.i b6.Code, .i b6.Index])]) rfl rfl (fun s4 x8 hr => ?_) (fun b5 hr => ?_) (fun b6 hr => ?_)
  ·
   unfold header_Validate_l1 at hr
   refine rn tk 6 rfl ?_
   refine ac 14 hr rfl (fun c9 hr => ?_) (fun c9 hr => ?_)
   ·
    refine rn tk 7 rfl ?_
    obtain ⟨v10, h11, hr⟩ := bind_some hr
    refine wi tk h11 rfl rfl rfl rfl rfl ?_
    refine rn tk 12 rfl ?_
    obtain ⟨v12, h13, hr⟩ := bind_some hr
    refine cl (fold_Fold_run _ _ _ h13) rfl rfl ?_
    refine rn tk 11 rfl ?_
    obtain ⟨v14, h15, hr⟩ := bind_some hr
    refine cl (basic_Failed_run _ _ h15) rfl rfl ?_
    refine rn tk 2 rfl ?_
    refine ac 27 hr rfl (fun c16 hr => ?_) (fun c16 hr => ?_)
    ·
     refine rn tk 5 rfl ?_
     obtain ⟨v17, h18, hr⟩ := bind_some hr
     refine cl (basic_Fault_run _ _ _ h18) rfl rfl ?_
     refine rn tk 6 rfl ?_
     cases hr
     exact ato rfl rfl rfl rfl
    ·
     refine rn tk 7 rfl ?_
     cases hr
     exact atc rfl rfl
   ·
    refine rn tk 2 rfl ?_
    cases hr
    exact ato rfl rfl rfl rfl
  ·
   refine rn tk 4 rfl ?_
   obtain ⟨v19, h20, hr⟩ := bind_some hr
   refine cl (basic_None_run _ h20) rfl rfl ?_
   refine rn tk 4 rfl ?_
   cases hr
   exact kr tk (.inr rfl) rfl rfl
  ·
   refine rn tk 2 rfl ?_
   cases hr
   exact kr tk (.inr rfl) rfl rfl
theorem basic_Body_run (a0 : List UInt8) (r : Int) (hr : basic_Body a0 = some r) : Run Tryz.prog 89 [.l cU a0] (.i r) := by
 unfold basic_Body at hr
 refine rf (fn := Tryz.f89) ⟨Tryz.func89, rfl, by kernel_rfl⟩ rfl (fun _ => rfl) fun g0 hg => ?_
 refine rn tk 17 rfl ?_
 refine al2 hr (fun s1 => [(0, .l cU a0), (3, .i s1.1), (4, .i s1.2)]) (fun s1 => []) (.exit 0) (fun b2 => []) (fun b2 => []) .ret (fun b3 => [(2, .i b3)]) (fun b3 => []) rfl rfl (fun s1 x5 hr => ?_) (fun b2 hr => ?_) (fun b3 hr => ?_)
 ·
  unfold basic_Body_l1 at hr
  refine rn tk 5 rfl ?_
  refine wn tk rfl rfl rfl ?_
  refine rn tk 3 rfl ?_
  refine ac 9 hr rfl (fun c6 hr => ?_) (fun c6 hr => ?_)
  ·
   refine rn tk 2 rfl ?_
   refine jk (fun j7 => [(0, .l cU a0), (3, .i j7.1), (4, .i j7.2)]) (fun j7 => []) (fun j7 => basic_Body_k2  j7 = some x5) ?_ ?_
   ·
    refine rn tk 5 rfl ?_
    obtain ⟨v8, h9, hr⟩ := bind_some hr
    refine wi tk h9 rfl rfl rfl rfl rfl ?_
    refine rn tk 5 rfl ?_
    refine jb hr (fun j10 => [(0, .l cU a0), (3, .i s1.1), (4, .i s1.2), (5, .u8 v8), (32, .bo j10)]) (fun j10 => []) (fun j10 hr => ?_) (fun j10 hr => ?_)
    ·
     refine rn tk 4 rfl ?_
     refine bs 18 hr rfl (fun c11 hr => ?_) (fun c11 hr => ?_)
     ·
      refine rn tk 3 rfl ?_
      refine ug rfl rfl rfl ?_
      refine wn tk rfl rfl rfl ?_
      refine rn tk 3 rfl ?_
      refine bs 25 hr rfl (fun c12 hr => ?_) (fun c12 hr => ?_)
      ·
       refine rn tk 3 rfl ?_
       obtain ⟨v13, h14, hr⟩ := bind_some hr
       refine ug rfl rfl rfl ?_
       refine wi tk h14 rfl rfl rfl rfl rfl ?_
       refine rn tk 4 rfl ?_
       cases hr
       exact jn _ rfl rfl rfl
      ·
       refine rn tk 8 rfl ?_
       cases hr
       exact jn _ rfl rfl rfl
     ·
      refine rn tk 15 rfl ?_
      cases hr
      exact jn _ rfl rfl rfl
    ·
     refine ac 32 hr rfl (fun c15 hr => ?_) (fun c15 hr => ?_)
     ·
      refine rn tk 15 rfl ?_
      exact jn ((0, (w64 (s1.2 + 1)))) hr rfl rfl
     ·
      refine rn tk 3 rfl ?_
      refine jb hr (fun j16 => [(0, .l cU a0), (3, .i s1.1), (4, .i s1.2), (40, .bo j16)]) (fun j16 => []) (fun j16 hr => ?_) (fun j16 hr => ?_)
      ·
       refine rn tk 4 rfl ?_
       refine bs 37 hr rfl (fun c17 hr => ?_) (fun c17 hr => ?_)
       ·
        refine rn tk 4 rfl ?_
        cases hr
        exact jn _ rfl rfl rfl
       ·
        refine rn tk 4 rfl ?_
        cases hr
        exact jn _ rfl rfl rfl
      ·
       refine ac 40 hr rfl (fun c18 hr => ?_) (fun c18 hr => ?_)
       ·
        refine rn tk 9 rfl ?_
        cases hr
        exact ato rfl rfl rfl rfl
       ·
        refine rn tk 15 rfl ?_
        refine ac 44 hr rfl (fun c19 hr => ?_) (fun c19 hr => ?_)
        ·
         refine rn tk 8 rfl ?_
         cases hr
         exact ato rfl rfl rfl rfl
        ·
         refine rn tk 2 rfl ?_
         exact jn (((w64 (s1.1 + 1)), s1.2)) hr rfl rfl
   ·
    intro j7 hr
    unfold basic_Body_k2 at hr
    refine rn tk 5 rfl ?_
    cases hr
    exact atc rfl rfl
  ·
   refine rn tk 2 rfl ?_
   cases hr
   exact ato rfl rfl rfl rfl
 ·
  refine rn tk 8 rfl ?_
  cases hr
  exact kr tk (.inr rfl) rfl rfl
 ·
  refine rn tk 2 rfl ?_
  cases hr
  exact kr tk (.inr rfl) rfl rfl
theorem message_body_run (a0 : List UInt8) (r : TFault) (hr : message_body a0 = some r) : Run Tryz.prog 66 [.l cU a0] (.agg [.i r.Code, .i r.Index]) := by
 unfold message_body at hr
 refine rf (fn := Tryz.f66) ⟨Tryz.func66, rfl, by kernel_rfl⟩ rfl (fun _ => rfl) fun g0 hg => ?_
 refine rn tk 9 rfl ?_
 obtain ⟨v1, h2, hr⟩ := bind_some hr
 refine cl (basic_Body_run _ _ h2) rfl rfl ?_
 refine rn tk 9 rfl ?_
 refine ac 5 hr rfl (fun c3 hr => ?_) (fun c3 hr => ?_)
 ·
  refine rn tk 2 rfl ?_
  obtain ⟨v4, h5, hr⟩ := bind_some hr
  refine cl (basic_Fault_run _ _ _ h5) rfl rfl ?_
  refine rn tk 6 rfl ?_
  cases hr
  exact kr tk (.inr rfl) rfl rfl
 ·
  refine rn tk 6 rfl ?_
  refine ac 8 hr rfl (fun c6 hr => ?_) (fun c6 hr => ?_)
  ·
   refine rn tk 2 rfl ?_
   obtain ⟨v7, h8, hr⟩ := bind_some hr
   refine cl (basic_Fault_run _ _ _ h8) rfl rfl ?_
   refine rn tk 6 rfl ?_
   cases hr
   exact kr tk (.inr rfl) rfl rfl
  ·
   refine rn tk 5 rfl ?_
   obtain ⟨v9, h10, hr⟩ := bind_some hr
   refine cl (basic_None_run _ h10) rfl rfl ?_
   refine rn tk 4 rfl ?_
   cases hr
   exact kr tk (.inr rfl) rfl rfl
theorem message_write_run (a0 : TMessage) (r : List UInt8) (hr : message_write a0 = some r) : Run Tryz.prog 65 [.agg [.l TField.pc a0.Fields, .l cU a0.Body]] (.l cU r) := by
 unfold message_write at hr
 refine rf (fn := Tryz.f65) ⟨Tryz.func65, rfl, by kernel_rfl⟩ rfl (fun _ => rfl) fun g0 hg => ?_
 refine rn tk 9 rfl ?_
 refine awpl_adopt 1003 (d := 3) 5 1 rfl rfl rfl (hO ?_)
 refine rn tk 7 rfl ?_
 refine wn tk rfl rfl rfl ?_
 refine rn tk 4 rfl ?_
 refine al1 hr (fun s1 => [(1, .ptr 1 0), (3, .hs 1003 0), (11, .l TField.pc a0.Fields), (12, .i ((a0.Fields.length : Int))), (13, .i s1.1)]) (fun s1 => [(1003, .row 5 false 1 (List.map cU s1.2)), (1, .cells [.l TField.pc a0.Fields, .l cU a0.Body])]) (.exit 0) (fun b2 => [(1, .ptr 1 0), (3, .hs 1003 0)]) (fun b2 => [(1003, .row 5 false 1 (List.map cU b2)), (1, .cells [.l TField.pc a0.Fields, .l cU a0.Body])]) rfl rfl (fun s1 x3 hr => ?_) (fun b2 hr => ?_)
 ·
  unfold message_write_l1 at hr
  refine rn tk 6 rfl ?_
  refine ac 14 hr rfl (fun c4 hr => ?_) (fun c4 hr => ?_)
  ·
   refine rn tk 6 rfl ?_
   obtain ⟨v5, h6, hr⟩ := bind_some hr
   refine wi tk h6 rfl rfl rfl rfl rfl ?_
   refine rn tk 11 rfl ?_
   obtain ⟨v7, h8, hr⟩ := bind_some hr
   refine cl (fold_Fold_run _ _ _ h8) rfl rfl ?_
   refine rn tk 11 rfl ?_
   refine wn tk rfl rfl rfl ?_
   refine rn tk 4 rfl ?_
   refine al1 hr (fun s9 => [(1, .ptr 1 0), (3, .hs 1003 0), (11, .l TField.pc a0.Fields), (12, .i ((a0.Fields.length : Int))), (13, .i s1.1), (25, .l cS v7.1), (26, .i ((v7.1.length : Int))), (27, .i s9.1)]) (fun s9 => [(1003, .row 5 false 1 (List.map cU s9.2)), (1, .cells [.l TField.pc a0.Fields, .l cU a0.Body])]) (.exit 2) (fun b10 => [(1, .ptr 1 0), (3, .hs 1003 0), (11, .l TField.pc a0.Fields), (12, .i ((a0.Fields.length : Int))), (13, .i s1.1)]) (fun b10 => [(1003, .row 5 false 1 (List.map cU b10)), (1, .cells [.l TField.pc a0.Fields, .l cU a0.Body])]) rfl rfl (fun s9 x11 hr => ?_) (fun b10 hr => ?_)
   ·
    unfold message_write_l2 at hr
    refine rn tk 6 rfl ?_
    refine ac 28 hr rfl (fun c12 hr => ?_) (fun c12 hr => ?_)
    ·
     refine rn tk 6 rfl ?_
     obtain ⟨v13, h14, hr⟩ := bind_some hr
     refine wi tk h14 rfl rfl rfl rfl rfl ?_
     refine rn tk 7 rfl ?_
     obtain ⟨v15, h16, hr⟩ := bind_some hr
     refine wo (opTo_appends (k := 33) (l := s9.2) (s := v13) (lim := 140737488355328) rfl rfl rfl rfl ty_s_uint8 ty_string.u ty_uint8 rfl h16) rfl ?_
     refine wz cU ([(13 : UInt8), (10 : UInt8)] : List UInt8) tk rfl rfl (fun _ => rfl) rfl rfl rfl ?_
     obtain ⟨v17, h18, hr⟩ := bind_some hr
     refine wa tk h18 rfl rfl rfl rfl (fun _ => rfl) rfl rfl ?_
     refine rn tk 8 rfl ?_
     cases hr
     exact atc rfl rfl
    ·
     refine rn tk 2 rfl ?_
     cases hr
     exact ato rfl rfl rfl rfl
   ·
    refine rn tk 7 rfl ?_
    cases hr
    exact atc rfl rfl
  ·
   refine rn tk 2 rfl ?_
   cases hr
   exact ato rfl rfl rfl rfl
 ·
  refine rn tk 3 rfl ?_
  obtain ⟨v19, h20, hr⟩ := bind_some hr
  obtain ⟨v21, h22, hr⟩ := bind_some hr
  refine awp_explore [([false, false, false, false, false, false, false], [(1, .ptr 1 0), (3, .hs 1003 0)], [(1003, .row 5 false 1 (List.map cU b2)), (1, .cells [.l TField.pc a0.Fields, .l cU a0.Body])]), ([true, false, false, false, false, false, false], [(1, .ptr 1 0), (3, .hs 1003 0), (38, .hs 1003 0)], [(1003, .row 5 false 1 (List.map cU b2)), (1, .cells [.l TField.pc a0.Fields, .l cU a0.Body])]), ([false, true, false, false, false, false, false], [(1, .ptr 1 0), (3, .hs 1003 0), (39, .l cU (([(13 : UInt8), (10 : UInt8)] : List UInt8)))], [(1003, .row 5 false 1 (List.map cU b2)), (1, .cells [.l TField.pc a0.Fields, .l cU a0.Body])]), ([false, false, false, true, false, false, false], [(1, .ptr 1 0), (3, .hs 1003 0), (41, .ptr 1 1)], [(1003, .row 5 false 1 (List.map cU b2)), (1, .cells [.l TField.pc a0.Fields, .l cU a0.Body])]), ([true, true, false, false, false, false, false], [(1, .ptr 1 0), (3, .hs 1003 0), (38, .hs 1003 0), (39, .l cU (([(13 : UInt8), (10 : UInt8)] : List UInt8)))], [(1003, .row 5 false 1 (List.map cU b2)), (1, .cells [.l TField.pc a0.Fields, .l cU a0.Body])]), ([true, false, false, true, false, false, false], [(1, .ptr 1 0), (3, .hs 1003 0), (38, .hs 1003 0), (41, .ptr 1 1)], [(1003, .row 5 false 1 (List.map cU b2)), (1, .cells [.l TField.pc a0.Fields, .l cU a0.Body])]), ([false, true, false, true, false, false, false], [(1, .ptr 1 0), (3, .hs 1003 0), (39, .l cU (([(13 : UInt8), (10 : UInt8)] : List UInt8))), (41, .ptr 1 1)], [(1003, .row 5 false 1 (List.map cU b2)), (1, .cells [.l TField.pc a0.Fields, .l cU a0.Body])]), ([false, false, false, true, true, false, false], [(1, .ptr 1 0), (3, .hs 1003 0), (41, .ptr 1 1), (42, .l cU a0.Body)], [(1003, .row 5 false 1 (List.map cU b2)), (1, .cells [.l TField.pc a0.Fields, .l cU a0.Body])]), ([true, true, true, false, false, false, false], [(1, .ptr 1 0), (39, .l cU (([(13 : UInt8), (10 : UInt8)] : List UInt8))), (40, .hs 1003 0)], [(1003, .row 5 false 1 (List.map cU v19)), (1, .cells [.l TField.pc a0.Fields, .l cU a0.Body])]), ([true, true, false, true, false, false, false], [(1, .ptr 1 0), (3, .hs 1003 0), (38, .hs 1003 0), (39, .l cU (([(13 : UInt8), (10 : UInt8)] : List UInt8))), (41, .ptr 1 1)], [(1003, .row 5 false 1 (List.map cU b2)), (1, .cells [.l TField.pc a0.Fields, .l cU a0.Body])]), ([true, false, false, true, true, false, false], [(1, .ptr 1 0), (3, .hs 1003 0), (38, .hs 1003 0), (41, .ptr 1 1), (42, .l cU a0.Body)], [(1003, .row 5 false 1 (List.map cU b2)), (1, .cells [.l TField.pc a0.Fields, .l cU a0.Body])]), ([false, true, false, true, true, false, false], [(1, .ptr 1 0), (3, .hs 1003 0), (39, .l cU (([(13 : UInt8), (10 : UInt8)] : List UInt8))), (41, .ptr 1 1), (42, .l cU a0.Body)], [(1003, .row 5 false 1 (List.map cU b2)), (1, .cells [.l TField.pc a0.Fields, .l cU a0.Body])]), ([true, true, true, true, false, false, false], [(1, .ptr 1 0), (39, .l cU (([(13 : UInt8), (10 : UInt8)] : List UInt8))), (40, .hs 1003 0), (41, .ptr 1 1)], [(1003, .row 5 false 1 (List.map cU v19)), (1, .cells [.l TField.pc a0.Fields, .l cU a0.Body])]), ([true, true, false, true, true, false, false], [(1, .ptr 1 0), (3, .hs 1003 0), (38, .hs 1003 0), (39, .l cU (([(13 : UInt8), (10 : UInt8)] : List UInt8))), (41, .ptr 1 1), (42, .l cU a0.Body)], [(1003, .row 5 false 1 (List.map cU b2)), (1, .cells [.l TField.pc a0.Fields, .l cU a0.Body])]), ([true, true, true, true, true, false, false], [(1, .ptr 1 0), (39, .l cU (([(13 : UInt8), (10 : UInt8)] : List UInt8))), (40, .hs 1003 0), (41, .ptr 1 1), (42, .l cU a0.Body)], [(1003, .row 5 false 1 (List.map cU v19)), (1, .cells [.l TField.pc a0.Fields, .l cU a0.Body])]), ([true, true, true, true, true, true, false], [(1, .ptr 1 0), (39, .l cU (([(13 : UInt8), (10 : UInt8)] : List UInt8))), (41, .ptr 1 1), (42, .l cU a0.Body), (43, .hs 1003 0)], [(1003, .row 5 false 1 (List.map cU v21)), (1, .cells [.l TField.pc a0.Fields, .l cU a0.Body])]), ([true, true, true, true, true, true, true], [(1, .ptr 1 0), (2, .hs 1003 0), (39, .l cU (([(13 : UInt8), (10 : UInt8)] : List UInt8))), (41, .ptr 1 1), (42, .l cU a0.Body), (43, .hs 1003 0)], [(1003, .row 5 false 1 (List.map cU v21)), (1, .cells [.l TField.pc a0.Fields, .l cU a0.Body])])] mixed (by kernel_rfl) rfl rfl (frLe_cons rfl (frLe_cons rfl frLe_nil)) (stoLe_cons rfl (stoLe_cons rfl stoLe_nil)) (.cons (.step [0, 1, 3] (by kernel_rfl) rfl (.cons (.yes 1 rfl (wanted_plain rfl) (opTo_q (d := 38) rfl rfl ev_move) rfl (frLe_cons rfl (frLe_cons rfl (frLe_cons rfl frLe_nil))) (stoLe_cons rfl (stoLe_cons rfl stoLe_nil))) (.cons (.yes 2 rfl (wanted_plain rfl) (opTo_g (d := 39) rfl rfl (opG_lit (F := cU) (l := ([(13 : UInt8), (10 : UInt8)] : List UInt8)) ty_s_uint8 ty_uint8 rfl (fun _ => rfl) rfl rfl)) rfl (frLe_cons rfl (frLe_cons rfl (frLe_cons rfl frLe_nil))) (stoLe_cons rfl (stoLe_cons rfl stoLe_nil))) (.cons (.yes 3 rfl (wanted_plain rfl) (opTo_q (d := 41) rfl rfl (ev_fieldAddr rfl ty_api_Message.u rfl ty_s_uint8 rfl)) rfl (frLe_cons rfl (frLe_cons rfl (frLe_cons rfl frLe_nil))) (stoLe_cons rfl (stoLe_cons rfl stoLe_nil))) .nil)))) (.cons (.step [1, 3] (by kernel_rfl) rfl (.cons (.yes 4 rfl (wanted_plain rfl) (opTo_g (d := 39) rfl rfl (opG_lit (F := cU) (l := ([(13 : UInt8), (10 : UInt8)] : List UInt8)) ty_s_uint8 ty_uint8 rfl (fun _ => rfl) rfl rfl)) rfl (frLe_cons rfl (frLe_cons rfl (frLe_cons rfl (frLe_cons rfl frLe_nil)))) (stoLe_cons rfl (stoLe_cons rfl stoLe_nil))) (.cons (.yes 5 rfl (wanted_plain rfl) (opTo_q (d := 41) rfl rfl (ev_fieldAddr rfl ty_api_Message.u rfl ty_s_uint8 rfl)) rfl (frLe_cons rfl (frLe_cons rfl (frLe_cons rfl (frLe_cons rfl frLe_nil)))) (stoLe_cons rfl (stoLe_cons rfl stoLe_nil))) .nil))) (.cons (.step [0, 3] (by kernel_rfl) rfl (.cons (.yes 4 rfl (wanted_plain rfl) (opTo_q (d := 38) rfl rfl ev_move) rfl (frLe_cons rfl (frLe_cons rfl (frLe_cons rfl (frLe_cons rfl frLe_nil)))) (stoLe_cons rfl (stoLe_cons rfl stoLe_nil))) (.cons (.yes 6 rfl (wanted_plain rfl) (opTo_q (d := 41) rfl rfl (ev_fieldAddr rfl ty_api_Message.u rfl ty_s_uint8 rfl)) rfl (frLe_cons rfl (frLe_cons rfl (frLe_cons rfl (frLe_cons rfl frLe_nil)))) (stoLe_cons rfl (stoLe_cons rfl stoLe_nil))) .nil))) (.cons (.step [0, 1, 4] (by kernel_rfl) rfl (.cons (.yes 5 rfl (wanted_plain rfl) (opTo_q (d := 38) rfl rfl ev_move) rfl (frLe_cons rfl (frLe_cons rfl (frLe_cons rfl (frLe_cons rfl frLe_nil)))) (stoLe_cons rfl (stoLe_cons rfl stoLe_nil))) (.cons (.yes 6 rfl (wanted_plain rfl) (opTo_g (d := 39) rfl rfl (opG_lit (F := cU) (l := ([(13 : UInt8), (10 : UInt8)] : List UInt8)) ty_s_uint8 ty_uint8 rfl (fun _ => rfl) rfl rfl)) rfl (frLe_cons rfl (frLe_cons rfl (frLe_cons rfl (frLe_cons rfl frLe_nil)))) (stoLe_cons rfl (stoLe_cons rfl stoLe_nil))) (.cons (.yes 7 rfl (wanted_plain rfl) (opTo_q (d := 42) rfl rfl (ev_load rfl rfl ty_s_uint8 rfl rfl)) rfl (frLe_cons rfl (frLe_cons rfl (frLe_cons rfl (frLe_cons rfl frLe_nil)))) (stoLe_cons rfl (stoLe_cons rfl stoLe_nil))) .nil)))) (.cons (.step [2, 3] (by kernel_rfl) rfl (.cons (.yes 8 rfl (wanted_plain rfl) (opTo_append (k := 40) (F := cU) (l := b2) (xs := (([(13 : UInt8), (10 : UInt8)] : List UInt8))) (lim := 140737488355328) rfl rfl rfl rfl ty_s_uint8 ty_uint8 rfl rfl (fun _ => rfl) rfl h20) rfl (frLe_cons rfl (frLe_cons rfl (frLe_cons rfl frLe_nil))) (stoLe_cons rfl (stoLe_cons rfl stoLe_nil))) (.cons (.yes 9 rfl (wanted_plain rfl) (opTo_q (d := 41) rfl rfl (ev_fieldAddr rfl ty_api_Message.u rfl ty_s_uint8 rfl)) rfl (frLe_cons rfl (frLe_cons rfl (frLe_cons rfl (frLe_cons rfl (frLe_cons rfl frLe_nil))))) (stoLe_cons rfl (stoLe_cons rfl stoLe_nil))) .nil))) (.cons (.step [1, 4] (by kernel_rfl) rfl (.cons (.yes 9 rfl (wanted_plain rfl) (opTo_g (d := 39) rfl rfl (opG_lit (F := cU) (l := ([(13 : UInt8), (10 : UInt8)] : List UInt8)) ty_s_uint8 ty_uint8 rfl (fun _ => rfl) rfl rfl)) rfl (frLe_cons rfl (frLe_cons rfl (frLe_cons rfl (frLe_cons rfl (frLe_cons rfl frLe_nil))))) (stoLe_cons rfl (stoLe_cons rfl stoLe_nil))) (.cons (.yes 10 rfl (wanted_plain rfl) (opTo_q (d := 42) rfl rfl (ev_load rfl rfl ty_s_uint8 rfl rfl)) rfl (frLe_cons rfl (frLe_cons rfl (frLe_cons rfl (frLe_cons rfl (frLe_cons rfl frLe_nil))))) (stoLe_cons rfl (stoLe_cons rfl stoLe_nil))) .nil))) (.cons (.step [0, 4] (by kernel_rfl) rfl (.cons (.yes 9 rfl (wanted_plain rfl) (opTo_q (d := 38) rfl rfl ev_move) rfl (frLe_cons rfl (frLe_cons rfl (frLe_cons rfl (frLe_cons rfl (frLe_cons rfl frLe_nil))))) (stoLe_cons rfl (stoLe_cons rfl stoLe_nil))) (.cons (.yes 11 rfl (wanted_plain rfl) (opTo_q (d := 42) rfl rfl (ev_load rfl rfl ty_s_uint8 rfl rfl)) rfl (frLe_cons rfl (frLe_cons rfl (frLe_cons rfl (frLe_cons rfl (frLe_cons rfl frLe_nil))))) (stoLe_cons rfl (stoLe_cons rfl stoLe_nil))) .nil))) (.cons (.step [0, 1] (by kernel_rfl) rfl (.cons (.yes 10 rfl (wanted_plain rfl) (opTo_q (d := 38) rfl rfl ev_move) rfl (frLe_cons rfl (frLe_cons rfl (frLe_cons rfl (frLe_cons rfl (frLe_cons rfl frLe_nil))))) (stoLe_cons rfl (stoLe_cons rfl stoLe_nil))) (.cons (.yes 11 rfl (wanted_plain rfl) (opTo_g (d := 39) rfl rfl (opG_lit (F := cU) (l := ([(13 : UInt8), (10 : UInt8)] : List UInt8)) ty_s_uint8 ty_uint8 rfl (fun _ => rfl) rfl rfl)) rfl (frLe_cons rfl (frLe_cons rfl (frLe_cons rfl (frLe_cons rfl (frLe_cons rfl frLe_nil))))) (stoLe_cons rfl (stoLe_cons rfl stoLe_nil))) .nil))) (.cons (.step [3] (by kernel_rfl) rfl (.cons (.yes 12 rfl (wanted_plain rfl) (opTo_q (d := 41) rfl rfl (ev_fieldAddr rfl ty_api_Message.u rfl ty_s_uint8 rfl)) rfl (frLe_cons rfl (frLe_cons rfl (frLe_cons rfl (frLe_cons rfl frLe_nil)))) (stoLe_cons rfl (stoLe_cons rfl stoLe_nil))) .nil)) (.cons (.step [2, 4] (by kernel_rfl) rfl (.cons (.yes 12 rfl (wanted_plain rfl) (opTo_append (k := 40) (F := cU) (l := b2) (xs := (([(13 : UInt8), (10 : UInt8)] : List UInt8))) (lim := 140737488355328) rfl rfl rfl rfl ty_s_uint8 ty_uint8 rfl rfl (fun _ => rfl) rfl h20) rfl (frLe_cons rfl (frLe_cons rfl (frLe_cons rfl (frLe_cons rfl frLe_nil)))) (stoLe_cons rfl (stoLe_cons rfl stoLe_nil))) (.cons (.yes 13 rfl (wanted_plain rfl) (opTo_q (d := 42) rfl rfl (ev_load rfl rfl ty_s_uint8 rfl rfl)) rfl (frLe_cons rfl (frLe_cons rfl (frLe_cons rfl (frLe_cons rfl (frLe_cons rfl (frLe_cons rfl frLe_nil)))))) (stoLe_cons rfl (stoLe_cons rfl stoLe_nil))) .nil))) (.cons (.step [1] (by kernel_rfl) rfl (.cons (.yes 13 rfl (wanted_plain rfl) (opTo_g (d := 39) rfl rfl (opG_lit (F := cU) (l := ([(13 : UInt8), (10 : UInt8)] : List UInt8)) ty_s_uint8 ty_uint8 rfl (fun _ => rfl) rfl rfl)) rfl (frLe_cons rfl (frLe_cons rfl (frLe_cons rfl (frLe_cons rfl (frLe_cons rfl (frLe_cons rfl frLe_nil)))))) (stoLe_cons rfl (stoLe_cons rfl stoLe_nil))) .nil)) (.cons (.step [0] (by kernel_rfl) rfl (.cons (.yes 13 rfl (wanted_plain rfl) (opTo_q (d := 38) rfl rfl ev_move) rfl (frLe_cons rfl (frLe_cons rfl (frLe_cons rfl (frLe_cons rfl (frLe_cons rfl (frLe_cons rfl frLe_nil)))))) (stoLe_cons rfl (stoLe_cons rfl stoLe_nil))) .nil)) (.cons (.step [4] (by kernel_rfl) rfl (.cons (.yes 14 rfl (wanted_plain rfl) (opTo_q (d := 42) rfl rfl (ev_load rfl rfl ty_s_uint8 rfl rfl)) rfl (frLe_cons rfl (frLe_cons rfl (frLe_cons rfl (frLe_cons rfl (frLe_cons rfl frLe_nil))))) (stoLe_cons rfl (stoLe_cons rfl stoLe_nil))) .nil)) (.cons (.step [2] (by kernel_rfl) rfl (.cons (.yes 14 rfl (wanted_plain rfl) (opTo_append (k := 40) (F := cU) (l := b2) (xs := (([(13 : UInt8), (10 : UInt8)] : List UInt8))) (lim := 140737488355328) rfl rfl rfl rfl ty_s_uint8 ty_uint8 rfl rfl (fun _ => rfl) rfl h20) rfl (frLe_cons rfl (frLe_cons rfl (frLe_cons rfl (frLe_cons rfl (frLe_cons rfl frLe_nil))))) (stoLe_cons rfl (stoLe_cons rfl stoLe_nil))) .nil)) (.cons (.step [5] (by kernel_rfl) rfl (.cons (.yes 15 rfl (wanted_plain rfl) (opTo_append (k := 43) (F := cU) (l := v19) (xs := a0.Body) (lim := 140737488355328) rfl rfl rfl rfl ty_s_uint8 ty_uint8 rfl rfl (fun _ => rfl) rfl h22) rfl (frLe_cons rfl (frLe_cons rfl (frLe_cons rfl (frLe_cons rfl (frLe_cons rfl frLe_nil))))) (stoLe_cons rfl (stoLe_cons rfl stoLe_nil))) .nil)) (.cons (.step [6] (by kernel_rfl) rfl (.cons (.yes 16 rfl (wanted_plain rfl) (opTo_q (d := 2) rfl rfl ev_assign) rfl (frLe_cons rfl (frLe_cons rfl (frLe_cons rfl (frLe_cons rfl (frLe_cons rfl (frLe_cons rfl frLe_nil)))))) (stoLe_cons rfl (stoLe_cons rfl stoLe_nil))) .nil)) (.cons (.full (by kernel_rfl) (hA ?_)) .nil)))))))))))))))))
  refine rn tk 1 rfl ?_
  refine awp_pub (d := 2) (F := cU) (l := v21) rfl rfl (hC ?_)
  refine rn tk 1 rfl ?_
  cases hr
  exact kr tk (.inr rfl) rfl rfl
theorem message_Validate_run (a0 : TMessage) (r : TFault) (hr : message_Validate a0 = some r) : Run Tryz.prog 37 [.agg [.l TField.pc a0.Fields, .l cU a0.Body]] (.agg [.i r.Code, .i r.Index]) := by
 unfold message_Validate at hr
 refine rf (fn := Tryz.f37) ⟨Tryz.func37, rfl, by kernel_rfl⟩ rfl (fun _ => rfl) fun g0 hg => ?_
 refine rn tk 11 rfl ?_
 obtain ⟨v1, h2, hr⟩ := bind_some hr
 refine cl (header_Validate_run _ _ h2) rfl rfl ?_
 refine rn tk 7 rfl ?_
 obtain ⟨v3, h4, hr⟩ := bind_some hr
 refine cl (basic_Failed_run _ _ h4) rfl rfl ?_
 refine rn tk 2 rfl ?_
 refine ac 8 hr rfl (fun c5 hr => ?_) (fun c5 hr => ?_)
 ·
  refine rn tk 8 rfl ?_
  cases hr
  exact kr tk (.inr rfl) rfl rfl
 ·
  refine rn tk 6 rfl ?_
  obtain ⟨v6, h7, hr⟩ := bind_some hr
  refine cl (message_write_run _ _ h7) rfl rfl ?_
  refine wn tk rfl rfl rfl ?_
  refine rn tk 3 rfl ?_
  refine ac 13 hr rfl (fun c8 hr => ?_) (fun c8 hr => ?_)
  ·
   refine rn tk 2 rfl ?_
   obtain ⟨v9, h10, hr⟩ := bind_some hr
   refine cl (basic_Fault_run _ _ _ h10) rfl rfl ?_
   refine rn tk 5 rfl ?_
   cases hr
   exact kr tk (.inr rfl) rfl rfl
  ·
   refine rn tk 6 rfl ?_
   obtain ⟨v11, h12, hr⟩ := bind_some hr
   refine cl (message_body_run _ _ h12) rfl rfl ?_
   refine rn tk 4 rfl ?_
   cases hr
   exact kr tk (.inr rfl) rfl rfl
theorem envelope_Check_run (a0 : TMail) (r : TFault) (hr : envelope_Check a0 = some r) : Run Tryz.prog 33 [.agg [.s a0.Envelope.From, .l TRecipient.pc a0.Envelope.To, .s a0.Envelope.Id, .l TField.pc a0.Message.Fields, .l cU a0.Message.Body]] (.agg [.i r.Code, .i r.Index]) := by
 unfold envelope_Check at hr
 refine rf (fn := Tryz.f33) ⟨Tryz.func33, rfl, by kernel_rfl⟩ rfl (fun _ => rfl) fun g0 hg => ?_
 refine rn tk 11 rfl ?_
 obtain ⟨v1, h2, hr⟩ := bind_some hr
 refine cl (envelope_Validate_run _ _ h2) rfl rfl ?_
 refine rn tk 7 rfl ?_
 obtain ⟨v3, h4, hr⟩ := bind_some hr
 refine cl (basic_Failed_run _ _ h4) rfl rfl ?_
 refine rn tk 2 rfl ?_
 refine ac 9 hr rfl (fun c5 hr => ?_) (fun c5 hr => ?_)
 ·
  refine rn tk 8 rfl ?_
  cases hr
  exact kr tk (.inr rfl) rfl rfl
 ·
  refine rn tk 7 rfl ?_
  obtain ⟨v6, h7, hr⟩ := bind_some hr
  refine cl (message_Validate_run _ _ h7) rfl rfl ?_
  refine rn tk 7 rfl ?_
  obtain ⟨v8, h9, hr⟩ := bind_some hr
  refine cl (basic_Failed_run _ _ h9) rfl rfl ?_
  refine rn tk 2 rfl ?_
  refine ac 15 hr rfl (fun c10 hr => ?_) (fun c10 hr => ?_)
  ·
   refine rn tk 4 rfl ?_
   obtain ⟨v11, h12, hr⟩ := bind_some hr
   refine cl (basic_Fault_run _ _ _ h12) rfl rfl ?_
   refine rn tk 5 rfl ?_
   cases hr
   exact kr tk (.inr rfl) rfl rfl
  ·
   refine rn tk 4 rfl ?_
   obtain ⟨v13, h14, hr⟩ := bind_some hr
   refine cl (basic_None_run _ h14) rfl rfl ?_
   refine rn tk 4 rfl ?_
   cases hr
   exact kr tk (.inr rfl) rfl rfl
theorem alias_Validate_run (a0 : List TAlias) (r : TFault) (hr : alias_Validate a0 = some r) : Run Tryz.prog 26 [.l TAlias.pc a0] (.agg [.i r.Code, .i r.Index]) := by
 unfold alias_Validate at hr
 refine rf (fn := Tryz.f26) ⟨Tryz.func26, rfl, by kernel_rfl⟩ rfl (fun _ => rfl) fun g0 hg => ?_
 refine rn tk 9 rfl ?_
 refine wn tk rfl rfl rfl ?_
 refine rn tk 3 rfl ?_
 refine ac 7 hr rfl (fun c1 hr => ?_) (fun c1 hr => ?_)
 ·
  refine rn tk 2 rfl ?_
  obtain ⟨v2, h3, hr⟩ := bind_some hr
  refine cl (basic_Fault_run _ _ _ h3) rfl rfl ?_
  refine rn tk 5 rfl ?_
  cases hr
  exact kr tk (.inr rfl) rfl rfl
 ·
  refine rn tk 6 rfl ?_
  refine wn tk rfl rfl rfl ?_
  refine rn tk 4 rfl ?_
  refine al2 hr (fun s4 => [(0, .l TAlias.pc a0), (2, .ptr 2 0), (9, .l TAlias.pc a0), (10, .i ((a0.length : Int))), (11, .i s4)]) (fun s4 => [(2, .cells [.i 0, .i 0])]) (.exit 0) (fun b5 => [(2, .ptr 2 0)]) (fun b5 => [(2, .cells [.i 0, .i 0])]) .ret (fun b6 => [(2, .ptr 2 0)]) (fun b6 => [(2, .cells [.i b6.Code, .i b6.Index])]) rfl rfl (fun s4 x8 hr => ?_) (fun b5 hr => ?_) (fun b6 hr => ?_)
  ·
   unfold alias_Validate_l1 at hr
   refine rn tk 6 rfl ?_
   refine ac 12 hr rfl (fun c9 hr => ?_) (fun c9 hr => ?_)
   ·
    refine rn tk 7 rfl ?_
    obtain ⟨v10, h11, hr⟩ := bind_some hr
    refine wi tk h11 rfl rfl rfl rfl rfl ?_
    refine rn tk 11 rfl ?_
    obtain ⟨v12, h13, hr⟩ := bind_some hr
    refine cl (envelope_Address_run _ _ h13) rfl rfl ?_
    refine rn tk 4 rfl ?_
    refine ac 16 hr rfl (fun c14 hr => ?_) (fun c14 hr => ?_)
    ·
     refine rn tk 3 rfl ?_
     obtain ⟨v15, h16, hr⟩ := bind_some hr
     refine cl (basic_Fault_run _ _ _ h16) rfl rfl ?_
     refine rn tk 7 rfl ?_
     cases hr
     exact ato rfl rfl rfl rfl
    ·
     refine jb hr (fun j17 => [(0, .l TAlias.pc a0), (2, .ptr 2 0), (3, .i s4), (4, .ptr 4 0), (9, .l TAlias.pc a0), (10, .i ((a0.length : Int))), (11, .i s4), (23, .bo j17)]) (fun j17 => [(4, .cells [.s v10.Address, .l cS v10.To]), (2, .cells [.i 0, .i 0])]) (fun j17 hr => ?_) (fun j17 hr => ?_)
     ·
      refine rn tk 3 rfl ?_
      refine wn tk rfl rfl rfl ?_
      refine rn tk 2 rfl ?_
      refine bs 28 hr rfl (fun c18 hr => ?_) (fun c18 hr => ?_)
      ·
       refine rn tk 7 rfl ?_
       cases hr
       exact jn _ rfl rfl rfl
      ·
       refine rn tk 2 rfl ?_
       refine ug rfl rfl rfl ?_
       refine wn tk rfl rfl rfl ?_
       refine rn tk 4 rfl ?_
       cases hr
       exact jn _ rfl rfl rfl
     ·
      refine ac 23 hr rfl (fun c19 hr => ?_) (fun c19 hr => ?_)
      ·
       refine rn tk 3 rfl ?_
       obtain ⟨v20, h21, hr⟩ := bind_some hr
       refine cl (basic_Fault_run _ _ _ h21) rfl rfl ?_
       refine rn tk 7 rfl ?_
       cases hr
       exact ato rfl rfl rfl rfl
      ·
       refine rn tk 4 rfl ?_
       refine il (fn := Tryz.f52) (args := [.l cS v10.To, .fn (.func 53) [] []]) 900000 999999 [(0, .l TAlias.pc a0), (2, .ptr 2 0), (3, .i s4), (4, .ptr 4 0), (9, .l TAlias.pc a0), (10, .i ((a0.length : Int))), (11, .i s4)] rfl ⟨Tryz.func52, rfl, by kernel_rfl⟩ rfl rfl rfl fun T9 ds9 => ?_
       refine rn tk 9 rfl ?_
       refine ct hr (fun j22 => [(7, .i j22)]) (fun j22 => [(999999, .sus g0.w.heap.size ds9), (900000, .hold (.l TAlias.pc a0) (T9.getD 0 undef)), (900002, .hold (.ptr 2 0) (T9.getD 2 undef)), (900003, .hold (.i s4) (T9.getD 3 undef)), (900004, .hold (.ptr 4 0) (T9.getD 4 undef)), (900009, .hold (.l TAlias.pc a0) (T9.getD 9 undef)), (900010, .hold (.i ((a0.length : Int))) (T9.getD 10 undef)), (900011, .hold (.i s4) (T9.getD 11 undef)), (4, .cells [.s v10.Address, .l cS v10.To]), (2, .cells [.i 0, .i 0])]) (fun j22 hr jump10 => ?_) (fun j22 hr => ?_)
       ·
        refine il (fn := Tryz.f79) (args := [.l cS v10.To, .fn (.func 53) [] []]) 1000000 1099999 [] rfl ⟨Tryz.func79, rfl, by kernel_rfl⟩ rfl rfl rfl fun T10 ds10 => ?_
        refine rn tk 9 rfl ?_
        refine wn tk rfl rfl rfl ?_
        refine rn tk 4 rfl ?_
        refine al2 hr (fun s23 => [(0, .l cS v10.To), (1, .fn (.func 53) [] []), (7, .i ((v10.To.length : Int))), (8, .i s23)]) (fun s23 => [(1099999, .sus g0.w.heap.size ds10), (999999, .sus g0.w.heap.size ds9), (900000, .hold (.l TAlias.pc a0) (T9.getD 0 undef)), (900002, .hold (.ptr 2 0) (T9.getD 2 undef)), (900003, .hold (.i s4) (T9.getD 3 undef)), (900004, .hold (.ptr 4 0) (T9.getD 4 undef)), (900009, .hold (.l TAlias.pc a0) (T9.getD 9 undef)), (900010, .hold (.i ((a0.length : Int))) (T9.getD 10 undef)), (900011, .hold (.i s4) (T9.getD 11 undef)), (4, .cells [.s v10.Address, .l cS v10.To]), (2, .cells [.i 0, .i 0])]) (.exit 0) (fun b24 => []) (fun b24 => [(1099999, .sus g0.w.heap.size ds10), (999999, .sus g0.w.heap.size ds9), (900000, .hold (.l TAlias.pc a0) (T9.getD 0 undef)), (900002, .hold (.ptr 2 0) (T9.getD 2 undef)), (900003, .hold (.i s4) (T9.getD 3 undef)), (900004, .hold (.ptr 4 0) (T9.getD 4 undef)), (900009, .hold (.l TAlias.pc a0) (T9.getD 9 undef)), (900010, .hold (.i ((a0.length : Int))) (T9.getD 10 undef)), (900011, .hold (.i s4) (T9.getD 11 undef)), (4, .cells [.s v10.Address, .l cS v10.To]), (2, .cells [.i 0, .i 0])]) .ret (fun b25 => [(4, .i b25)]) (fun b25 => [(1099999, .sus g0.w.heap.size ds10), (999999, .sus g0.w.heap.size ds9), (900000, .hold (.l TAlias.pc a0) (T9.getD 0 undef)), (900002, .hold (.ptr 2 0) (T9.getD 2 undef)), (900003, .hold (.i s4) (T9.getD 3 undef)), (900004, .hold (.ptr 4 0) (T9.getD 4 undef)), (900009, .hold (.l TAlias.pc a0) (T9.getD 9 undef)), (900010, .hold (.i ((a0.length : Int))) (T9.getD 10 undef)), (900011, .hold (.i s4) (T9.getD 11 undef)), (4, .cells [.s v10.Address, .l cS v10.To]), (2, .cells [.i 0, .i 0])]) rfl rfl (fun s23 x27 hr => ?_) (fun b24 hr => ?_) (fun b25 hr => ?_)
        ·
         unfold alias_Validate_l2 at hr
         refine rn tk 6 rfl ?_
         refine ac 9 hr rfl (fun c28 hr => ?_) (fun c28 hr => ?_)
         ·
          refine rn tk 15 rfl ?_
          obtain ⟨v29, h30, hr⟩ := bind_some hr
          refine wi tk h30 rfl rfl rfl rfl rfl ?_
          refine rn tk 1 rfl ?_
          refine il (fn := Tryz.f53) (args := [.s v29]) 1200000 1299999 [(0, .l cS v10.To), (1, .fn (.func 53) [] []), (5, .i s23), (7, .i ((v10.To.length : Int))), (8, .i s23)] rfl ⟨Tryz.func53, rfl, by kernel_rfl⟩ rfl rfl rfl fun T12 ds12 => ?_
          refine rn tk 8 rfl ?_
          obtain ⟨v31, h32, hr⟩ := bind_some hr
          refine cl (envelope_Address_run _ _ h32) rfl rfl ?_
          refine rn tk 5 rfl ?_
          refine ie tk [.bo ((!v31))] [(0, .l cS v10.To), (1, .fn (.func 53) [] []), (5, .i s23), (7, .i ((v10.To.length : Int))), (8, .i s23)] [(1099999, .sus g0.w.heap.size ds10), (999999, .sus g0.w.heap.size ds9), (900000, .hold (.l TAlias.pc a0) (T9.getD 0 undef)), (900002, .hold (.ptr 2 0) (T9.getD 2 undef)), (900003, .hold (.i s4) (T9.getD 3 undef)), (900004, .hold (.ptr 4 0) (T9.getD 4 undef)), (900009, .hold (.l TAlias.pc a0) (T9.getD 9 undef)), (900010, .hold (.i ((a0.length : Int))) (T9.getD 10 undef)), (900011, .hold (.i s4) (T9.getD 11 undef)), (4, .cells [.s v10.Address, .l cS v10.To]), (2, .cells [.i 0, .i 0])] (.inr rfl) rfl rfl rfl rfl (hO ?_)
          refine rn tk 2 rfl ?_
          refine ac 16 hr rfl (fun c33 hr => ?_) (fun c33 hr => ?_)
          ·
           refine rn tk 9 rfl ?_
           cases hr
           exact ato rfl rfl rfl rfl
          ·
           refine rn tk 7 rfl ?_
           cases hr
           exact atc rfl rfl
         ·
          refine rn tk 2 rfl ?_
          cases hr
          exact ato rfl rfl rfl rfl
        ·
         refine rn tk 8 rfl ?_
         refine ie tk [.i ((-1))] [] [(999999, .sus g0.w.heap.size ds9), (900000, .hold (.l TAlias.pc a0) (T9.getD 0 undef)), (900002, .hold (.ptr 2 0) (T9.getD 2 undef)), (900003, .hold (.i s4) (T9.getD 3 undef)), (900004, .hold (.ptr 4 0) (T9.getD 4 undef)), (900009, .hold (.l TAlias.pc a0) (T9.getD 9 undef)), (900010, .hold (.i ((a0.length : Int))) (T9.getD 10 undef)), (900011, .hold (.i s4) (T9.getD 11 undef)), (4, .cells [.s v10.Address, .l cS v10.To]), (2, .cells [.i 0, .i 0])] (.inr rfl) rfl rfl rfl rfl ?_
         cases hr
         exact jump10 _ _ rfl rfl
        ·
         refine rn tk 2 rfl ?_
         refine ie tk [.i b25] [] [(999999, .sus g0.w.heap.size ds9), (900000, .hold (.l TAlias.pc a0) (T9.getD 0 undef)), (900002, .hold (.ptr 2 0) (T9.getD 2 undef)), (900003, .hold (.i s4) (T9.getD 3 undef)), (900004, .hold (.ptr 4 0) (T9.getD 4 undef)), (900009, .hold (.l TAlias.pc a0) (T9.getD 9 undef)), (900010, .hold (.i ((a0.length : Int))) (T9.getD 10 undef)), (900011, .hold (.i s4) (T9.getD 11 undef)), (4, .cells [.s v10.Address, .l cS v10.To]), (2, .cells [.i 0, .i 0])] (.inr rfl) rfl rfl rfl rfl ?_
         cases hr
         exact jump10 _ _ rfl rfl
       ·
        refine rn tk 5 rfl ?_
        refine ie tk [.bo (decide (0 ≤ j22))] [(0, .l TAlias.pc a0), (2, .ptr 2 0), (3, .i s4), (4, .ptr 4 0), (9, .l TAlias.pc a0), (10, .i ((a0.length : Int))), (11, .i s4)] [(4, .cells [.s v10.Address, .l cS v10.To]), (2, .cells [.i 0, .i 0])] (.inr rfl) rfl rfl rfl rfl (hO ?_)
        refine rn tk 3 rfl ?_
        refine ac 36 hr rfl (fun c34 hr => ?_) (fun c34 hr => ?_)
        ·
         refine rn tk 3 rfl ?_
         obtain ⟨v35, h36, hr⟩ := bind_some hr
         refine cl (basic_Fault_run _ _ _ h36) rfl rfl ?_
         refine rn tk 7 rfl ?_
         cases hr
         exact ato rfl rfl rfl rfl
        ·
         refine rn tk 4 rfl ?_
         obtain ⟨v37, h38, hr⟩ := bind_some hr
         refine wlH tk h38 rfl rfl rfl (fun _ => rfl) rfl ?_
         refine rn tk 1 rfl ?_
         refine il (fn := Tryz.f54) (args := [.l TAlias.pc v37, .fn (.func 55) [] [.ptr 4 0]]) 1300000 1399999 [(0, .l TAlias.pc a0), (2, .ptr 2 0), (3, .i s4), (9, .l TAlias.pc a0), (10, .i ((a0.length : Int))), (11, .i s4)] rfl ⟨Tryz.func54, rfl, by kernel_rfl⟩ rfl rfl rfl fun T13 ds13 => ?_
         refine rn tk 9 rfl ?_
         refine ct hr (fun j39 => [(7, .i j39)]) (fun j39 => [(1399999, .sus g0.w.heap.size ds13), (1300000, .hold (.l TAlias.pc a0) (T13.getD 0 undef)), (1300002, .hold (.ptr 2 0) (T13.getD 2 undef)), (1300003, .hold (.i s4) (T13.getD 3 undef)), (1300009, .hold (.l TAlias.pc a0) (T13.getD 9 undef)), (1300010, .hold (.i ((a0.length : Int))) (T13.getD 10 undef)), (1300011, .hold (.i s4) (T13.getD 11 undef)), (2, .cells [.i 0, .i 0])]) (fun j39 hr jump14 => ?_) (fun j39 hr => ?_)
         ·
          refine il (fn := Tryz.f80) (args := [.l TAlias.pc v37, .fn (.func 55) [] [.ptr 4 0]]) 1400000 1499999 [] rfl ⟨Tryz.func80, rfl, by kernel_rfl⟩ rfl rfl rfl fun T14 ds14 => ?_
          refine rn tk 9 rfl ?_
          refine wn tk rfl rfl rfl ?_
          refine rn tk 4 rfl ?_
          refine al2 hr (fun s40 => [(0, .l TAlias.pc v37), (1, .fn (.func 55) [] [.ptr 4 0]), (7, .i ((v37.length : Int))), (8, .i s40)]) (fun s40 => [(1499999, .sus g0.w.heap.size ds14), (1399999, .sus g0.w.heap.size ds13), (1300000, .hold (.l TAlias.pc a0) (T13.getD 0 undef)), (1300002, .hold (.ptr 2 0) (T13.getD 2 undef)), (1300003, .hold (.i s4) (T13.getD 3 undef)), (1300009, .hold (.l TAlias.pc a0) (T13.getD 9 undef)), (1300010, .hold (.i ((a0.length : Int))) (T13.getD 10 undef)), (1300011, .hold (.i s4) (T13.getD 11 undef)), (4, .cells [.s v10.Address, .l cS v10.To]), (2, .cells [.i 0, .i 0])]) (.exit 0) (fun b41 => []) (fun b41 => [(1499999, .sus g0.w.heap.size ds14), (1399999, .sus g0.w.heap.size ds13), (1300000, .hold (.l TAlias.pc a0) (T13.getD 0 undef)), (1300002, .hold (.ptr 2 0) (T13.getD 2 undef)), (1300003, .hold (.i s4) (T13.getD 3 undef)), (1300009, .hold (.l TAlias.pc a0) (T13.getD 9 undef)), (1300010, .hold (.i ((a0.length : Int))) (T13.getD 10 undef)), (1300011, .hold (.i s4) (T13.getD 11 undef)), (2, .cells [.i 0, .i 0])]) .ret (fun b42 => [(4, .i b42)]) (fun b42 => [(1499999, .sus g0.w.heap.size ds14), (1399999, .sus g0.w.heap.size ds13), (1300000, .hold (.l TAlias.pc a0) (T13.getD 0 undef)), (1300002, .hold (.ptr 2 0) (T13.getD 2 undef)), (1300003, .hold (.i s4) (T13.getD 3 undef)), (1300009, .hold (.l TAlias.pc a0) (T13.getD 9 undef)), (1300010, .hold (.i ((a0.length : Int))) (T13.getD 10 undef)), (1300011, .hold (.i s4) (T13.getD 11 undef)), (2, .cells [.i 0, .i 0])]) rfl rfl (fun s40 x44 hr => ?_) (fun b41 hr => ?_) (fun b42 hr => ?_)
          ·
           unfold alias_Validate_l3 at hr
           refine rn tk 6 rfl ?_
           refine ac 9 hr rfl (fun c45 hr => ?_) (fun c45 hr => ?_)
           ·
            refine rn tk 15 rfl ?_
            obtain ⟨v46, h47, hr⟩ := bind_some hr
            refine wi tk h47 rfl rfl rfl rfl rfl ?_
            refine rn tk 1 rfl ?_
            refine il (fn := Tryz.f55) (args := [.agg [.s v46.Address, .l cS v46.To], .ptr 4 0]) 1600000 1699999 [(0, .l TAlias.pc v37), (1, .fn (.func 55) [] [.ptr 4 0]), (5, .i s40), (7, .i ((v37.length : Int))), (8, .i s40)] rfl ⟨Tryz.func55, rfl, by kernel_rfl⟩ rfl rfl rfl fun T16 ds16 => ?_
            refine rn tk 2 rfl ?_
            refine wo (opTo_box (k := 2) 1002 rfl rfl rfl rfl rfl) rfl ?_
            refine rn tk 14 rfl ?_
            refine ie tk [.bo ((v46.Address == v10.Address))] [(0, .l TAlias.pc v37), (1, .fn (.func 55) [] [.ptr 4 0]), (5, .i s40), (7, .i ((v37.length : Int))), (8, .i s40)] [(1002, .cells [.s v46.Address, .l cS v46.To]), (1499999, .sus g0.w.heap.size ds14), (1399999, .sus g0.w.heap.size ds13), (1300000, .hold (.l TAlias.pc a0) (T13.getD 0 undef)), (1300002, .hold (.ptr 2 0) (T13.getD 2 undef)), (1300003, .hold (.i s4) (T13.getD 3 undef)), (1300009, .hold (.l TAlias.pc a0) (T13.getD 9 undef)), (1300010, .hold (.i ((a0.length : Int))) (T13.getD 10 undef)), (1300011, .hold (.i s4) (T13.getD 11 undef)), (4, .cells [.s v10.Address, .l cS v10.To]), (2, .cells [.i 0, .i 0])] (.inr rfl) rfl rfl rfl rfl (hO ?_)
            refine rn tk 2 rfl ?_
            refine ac 16 hr rfl (fun c48 hr => ?_) (fun c48 hr => ?_)
            ·
             refine rn tk 9 rfl ?_
             cases hr
             exact ato rfl rfl rfl rfl
            ·
             refine rn tk 7 rfl ?_
             cases hr
             exact atc rfl rfl
           ·
            refine rn tk 2 rfl ?_
            cases hr
            exact ato rfl rfl rfl rfl
          ·
           refine rn tk 8 rfl ?_
           refine ie tk [.i ((-1))] [] [(1399999, .sus g0.w.heap.size ds13), (1300000, .hold (.l TAlias.pc a0) (T13.getD 0 undef)), (1300002, .hold (.ptr 2 0) (T13.getD 2 undef)), (1300003, .hold (.i s4) (T13.getD 3 undef)), (1300009, .hold (.l TAlias.pc a0) (T13.getD 9 undef)), (1300010, .hold (.i ((a0.length : Int))) (T13.getD 10 undef)), (1300011, .hold (.i s4) (T13.getD 11 undef)), (2, .cells [.i 0, .i 0])] (.inr rfl) rfl rfl rfl rfl ?_
           cases hr
           exact jump14 _ _ rfl rfl
          ·
           refine rn tk 2 rfl ?_
           refine ie tk [.i b42] [] [(1399999, .sus g0.w.heap.size ds13), (1300000, .hold (.l TAlias.pc a0) (T13.getD 0 undef)), (1300002, .hold (.ptr 2 0) (T13.getD 2 undef)), (1300003, .hold (.i s4) (T13.getD 3 undef)), (1300009, .hold (.l TAlias.pc a0) (T13.getD 9 undef)), (1300010, .hold (.i ((a0.length : Int))) (T13.getD 10 undef)), (1300011, .hold (.i s4) (T13.getD 11 undef)), (2, .cells [.i 0, .i 0])] (.inr rfl) rfl rfl rfl rfl ?_
           cases hr
           exact jump14 _ _ rfl rfl
         ·
          refine rn tk 5 rfl ?_
          refine ie tk [.bo (decide (0 ≤ j39))] [(0, .l TAlias.pc a0), (2, .ptr 2 0), (3, .i s4), (9, .l TAlias.pc a0), (10, .i ((a0.length : Int))), (11, .i s4)] [(2, .cells [.i 0, .i 0])] (.inr rfl) rfl rfl rfl rfl (hO ?_)
          refine rn tk 3 rfl ?_
          refine ac 42 hr rfl (fun c49 hr => ?_) (fun c49 hr => ?_)
          ·
           refine rn tk 3 rfl ?_
           obtain ⟨v50, h51, hr⟩ := bind_some hr
           refine cl (basic_Fault_run _ _ _ h51) rfl rfl ?_
           refine rn tk 7 rfl ?_
           cases hr
           exact ato rfl rfl rfl rfl
          ·
           refine rn tk 8 rfl ?_
           cases hr
           exact atc rfl rfl
   ·
    refine rn tk 2 rfl ?_
    cases hr
    exact ato rfl rfl rfl rfl
  ·
   refine rn tk 4 rfl ?_
   obtain ⟨v52, h53, hr⟩ := bind_some hr
   refine cl (basic_None_run _ h53) rfl rfl ?_
   refine rn tk 4 rfl ?_
   cases hr
   exact kr tk (.inr rfl) rfl rfl
  ·
   refine rn tk 2 rfl ?_
   cases hr
   exact kr tk (.inr rfl) rfl rfl
theorem forward_aliases_run (a0 : List TForward) (r : List TAlias) (hr : forward_aliases a0 = some r) : Run Tryz.prog 22 [.l TForward.pc a0] (.l TAlias.pc r) := by
 unfold forward_aliases at hr
 refine rf (fn := Tryz.f22) ⟨Tryz.func22, rfl, by kernel_rfl⟩ rfl (fun _ => rfl) fun g0 hg => ?_
 refine rn tk 8 rfl ?_
 refine awpl_adopt 1003 (d := 3) 79 2 rfl rfl rfl (hO ?_)
 refine rn tk 6 rfl ?_
 refine wn tk rfl rfl rfl ?_
 refine rn tk 4 rfl ?_
 refine al1 hr (fun s1 => [(3, .hs 1003 0), (6, .l TForward.pc a0), (7, .i ((a0.length : Int))), (8, .i s1.1)]) (fun s1 => [(1003, .row 79 false 2 (List.map TAlias.pc s1.2))]) (.exit 0) (fun b2 => [(3, .hs 1003 0)]) (fun b2 => [(1003, .row 79 false 2 (List.map TAlias.pc b2))]) rfl rfl (fun s1 x3 hr => ?_) (fun b2 hr => ?_)
 ·
  unfold forward_aliases_l1 at hr
  refine rn tk 6 rfl ?_
  refine ac 9 hr rfl (fun c4 hr => ?_) (fun c4 hr => ?_)
  ·
   refine rn tk 6 rfl ?_
   obtain ⟨v5, h6, hr⟩ := bind_some hr
   refine wi tk h6 rfl rfl rfl rfl rfl ?_
   refine rn tk 12 rfl ?_
   refine wz TAlias.pc ([(TAlias.mk v5.Address v5.To)] : List TAlias) tk rfl rfl (fun _ => rfl) rfl rfl rfl ?_
   obtain ⟨v7, h8, hr⟩ := bind_some hr
   refine wa tk h8 rfl rfl rfl rfl (fun _ => rfl) rfl rfl ?_
   refine rn tk 8 rfl ?_
   cases hr
   exact atc rfl rfl
  ·
   refine rn tk 2 rfl ?_
   cases hr
   exact ato rfl rfl rfl rfl
 ·
  refine rn tk 8 rfl ?_
  refine awp_pub (d := 2) (F := TAlias.pc) (l := b2) rfl rfl (hC ?_)
  refine rn tk 1 rfl ?_
  cases hr
  exact kr tk (.inr rfl) rfl rfl
theorem forward_Validate_run (a0 : List TForward) (r : TFault) (hr : forward_Validate a0 = some r) : Run Tryz.prog 8 [.l TForward.pc a0] (.agg [.i r.Code, .i r.Index]) := by
 unfold forward_Validate at hr
 refine rf (fn := Tryz.f8) ⟨Tryz.func8, rfl, by kernel_rfl⟩ rfl (fun _ => rfl) fun g0 hg => ?_
 refine rn tk 8 rfl ?_
 obtain ⟨v1, h2, hr⟩ := bind_some hr
 refine cl (forward_aliases_run _ _ h2) rfl rfl ?_
 obtain ⟨v3, h4, hr⟩ := bind_some hr
 refine cl (alias_Validate_run _ _ h4) rfl rfl ?_
 refine rn tk 4 rfl ?_
 cases hr
 exact kr tk (.inr rfl) rfl rfl
theorem forward_find_run (a0 : List TForward) (a1 : Str) (r : Int) (hr : forward_find a0 a1 = some r) : Run Tryz.prog 23 [.l TForward.pc a0, .s a1] (.i r) := by
 unfold forward_find at hr
 refine rf (fn := Tryz.f23) ⟨Tryz.func23, rfl, by kernel_rfl⟩ rfl (fun _ => rfl) fun g0 hg => ?_
 refine rn tk 10 rfl ?_
 refine ct hr (fun j1 => [(7, .i j1)]) (fun j1 => []) (fun j1 hr jump1 => ?_) (fun j1 hr => ?_)
 ·
  refine il (fn := Tryz.f50) (args := [.l TForward.pc a0, .fn (.func 51) [] [.ptr 3 0]]) 100000 199999 [] rfl ⟨Tryz.func50, rfl, by kernel_rfl⟩ rfl rfl rfl fun T1 ds1 => ?_
  refine rn tk 9 rfl ?_
  refine wn tk rfl rfl rfl ?_
  refine rn tk 4 rfl ?_
  refine al2 hr (fun s2 => [(0, .l TForward.pc a0), (1, .fn (.func 51) [] [.ptr 3 0]), (7, .i ((a0.length : Int))), (8, .i s2)]) (fun s2 => [(199999, .sus g0.w.heap.size ds1), (3, .cells [.s a1])]) (.exit 0) (fun b3 => []) (fun b3 => [(199999, .sus g0.w.heap.size ds1)]) .ret (fun b4 => [(4, .i b4)]) (fun b4 => [(199999, .sus g0.w.heap.size ds1)]) rfl rfl (fun s2 x6 hr => ?_) (fun b3 hr => ?_) (fun b4 hr => ?_)
  ·
   unfold forward_find_l1 at hr
   refine rn tk 6 rfl ?_
   refine ac 9 hr rfl (fun c7 hr => ?_) (fun c7 hr => ?_)
   ·
    refine rn tk 15 rfl ?_
    obtain ⟨v8, h9, hr⟩ := bind_some hr
    refine wi tk h9 rfl rfl rfl rfl rfl ?_
    refine rn tk 1 rfl ?_
    refine il (fn := Tryz.f51) (args := [.agg [.s v8.Address, .l cS v8.To, .bo v8.Keep], .ptr 3 0]) 300000 399999 [(0, .l TForward.pc a0), (1, .fn (.func 51) [] [.ptr 3 0]), (5, .i s2), (7, .i ((a0.length : Int))), (8, .i s2)] rfl ⟨Tryz.func51, rfl, by kernel_rfl⟩ rfl rfl rfl fun T3 ds3 => ?_
    refine rn tk 16 rfl ?_
    refine ie tk [.bo ((v8.Address == a1))] [(0, .l TForward.pc a0), (1, .fn (.func 51) [] [.ptr 3 0]), (5, .i s2), (7, .i ((a0.length : Int))), (8, .i s2)] [(2, .cells [.s v8.Address, .l cS v8.To, .bo v8.Keep]), (199999, .sus g0.w.heap.size ds1), (3, .cells [.s a1])] (.inr rfl) rfl rfl rfl rfl (hO ?_)
    refine rn tk 2 rfl ?_
    refine ac 16 hr rfl (fun c10 hr => ?_) (fun c10 hr => ?_)
    ·
     refine rn tk 9 rfl ?_
     cases hr
     exact ato rfl rfl rfl rfl
    ·
     refine rn tk 7 rfl ?_
     cases hr
     exact atc rfl rfl
   ·
    refine rn tk 2 rfl ?_
    cases hr
    exact ato rfl rfl rfl rfl
  ·
   refine rn tk 8 rfl ?_
   refine ie tk [.i ((-1))] [] [] (.inr rfl) rfl rfl rfl rfl ?_
   cases hr
   exact jump1 _ _ rfl rfl
  ·
   refine rn tk 2 rfl ?_
   refine ie tk [.i b4] [] [] (.inr rfl) rfl rfl rfl rfl ?_
   cases hr
   exact jump1 _ _ rfl rfl
 ·
  refine rn tk 4 rfl ?_
  cases hr
  exact kr tk (.inr rfl) rfl rfl
theorem slices_Concat_api_Field_api_Field_run (a0 : List (List TField)) (r : List TField) (hr : slices_Concat_api_Field_api_Field a0 = some r) : Run Tryz.prog 85 [.l (cL TField.pc) a0] (.l TField.pc r) := by
 unfold slices_Concat_api_Field_api_Field at hr
 refine rf (fn := Tryz.f85) ⟨Tryz.func85, rfl, by kernel_rfl⟩ rfl (fun _ => rfl) fun g0 hg => ?_
 refine rn tk 14 rfl ?_
 refine wn tk rfl rfl rfl ?_
 refine rn tk 4 rfl ?_
 refine al1 hr (fun s1 => [(0, .l (cL TField.pc) a0), (3, .i s1.1), (9, .l (cL TField.pc) a0), (10, .i ((a0.length : Int))), (11, .i s1.2)]) (fun s1 => []) (.exit 0) (fun b2 => [(0, .l (cL TField.pc) a0), (3, .i b2)]) (fun b2 => []) rfl rfl (fun s1 x3 hr => ?_) (fun b2 hr => ?_)
 ·
  unfold slices_Concat_api_Field_api_Field_l1 at hr
  refine rn tk 6 rfl ?_
  refine ac 12 hr rfl (fun c4 hr => ?_) (fun c4 hr => ?_)
  ·
   refine rn tk 6 rfl ?_
   obtain ⟨v5, h6, hr⟩ := bind_some hr
   refine wi tk h6 rfl rfl rfl rfl rfl ?_
   refine rn tk 8 rfl ?_
   refine wn tk rfl rfl rfl ?_
   refine rn tk 10 rfl ?_
   refine ac 20 hr rfl (fun c7 hr => ?_) (fun c7 hr => ?_)
   ·
    refine rn tk 1 rfl ?_
    cases hr
   ·
    refine rn tk 7 rfl ?_
    cases hr
    exact atc rfl rfl
  ·
   refine rn tk 2 rfl ?_
   cases hr
   exact ato rfl rfl rfl rfl
 ·
  refine rn tk 5 rfl ?_
  refine il (fn := Tryz.f103) (args := [.pv (.sl (some true) []), .i b2]) 100000 199999 [(0, .l (cL TField.pc) a0)] rfl ⟨Tryz.func103, rfl, by kernel_rfl⟩ rfl rfl rfl fun T1 ds1 => ?_
  refine rn tk 12 rfl ?_
  refine ac 6 hr rfl (fun c8 hr => ?_) (fun c8 hr => ?_)
  ·
   refine rn tk 1 rfl ?_
   cases hr
  ·
   refine rn tk 7 rfl ?_
   refine wq (ev_capnil rfl ty_s_api_Field.u) rfl rfl rfl ?_
   refine rn tk 1 rfl ?_
   refine wq (ev_lennil rfl ty_s_api_Field.u) rfl rfl rfl ?_
   refine rn tk 11 rfl ?_
   refine ac 16 hr rfl (fun c9 hr => ?_) (fun c9 hr => ?_)
   ·
    refine rn tk 3 rfl ?_
    refine wq (ev_capnil rfl ty_s_api_Field.u) rfl rfl rfl ?_
    refine wq (ev_slnil rfl rfl ty_s_api_Field ty_api_Field) rfl rfl rfl ?_
    refine rn tk 1 rfl ?_
    obtain ⟨v10, h11, hr⟩ := bind_some hr
    refine wo (opTo_appendn (k := 22) (F := TField.pc) (z := ((TField.mk (([] : Str)) (([] : Str))) : TField)) (lim := 4398046511104) 1022 rfl rfl rfl rfl rfl ty_s_api_Field ty_int ty_api_Field rfl rfl rfl h11) rfl ?_
    refine rn tk 1 rfl ?_
    refine wq (ev_lennil rfl ty_s_api_Field.u) rfl rfl rfl ?_
    obtain ⟨v12, h13, hr⟩ := bind_some hr
    refine wo (opTo_hcutH (k := 25) (F := TField.pc) (l := v10) rfl rfl rfl rfl ty_s_api_Field ty_api_Field h13) rfl ?_
    refine rn tk 10 rfl ?_
    refine ie tk [.hs 1022 0] [(0, .l (cL TField.pc) a0)] [(1022, .row 62 true 2 (List.map TField.pc v12))] (.inr rfl) rfl rfl rfl rfl (hO ?_)
    refine rn tk 7 rfl ?_
    refine wn tk rfl rfl rfl ?_
    refine rn tk 4 rfl ?_
    refine al1 hr (fun s14 => [(6, .hs 1022 0), (25, .l (cL TField.pc) a0), (26, .i ((a0.length : Int))), (27, .i s14.1)]) (fun s14 => [(1022, .row 62 true 2 (List.map TField.pc s14.2))]) (.exit 2) (fun b15 => [(6, .hs 1022 0)]) (fun b15 => [(1022, .row 62 true 2 (List.map TField.pc b15))]) rfl rfl (fun s14 x16 hr => ?_) (fun b15 hr => ?_)
    ·
     unfold slices_Concat_api_Field_api_Field_l2 at hr
     refine rn tk 6 rfl ?_
     refine ac 28 hr rfl (fun c17 hr => ?_) (fun c17 hr => ?_)
     ·
      refine rn tk 6 rfl ?_
      obtain ⟨v18, h19, hr⟩ := bind_some hr
      refine wi tk h19 rfl rfl rfl rfl rfl ?_
      refine rn tk 7 rfl ?_
      obtain ⟨v20, h21, hr⟩ := bind_some hr
      refine wa tk h21 rfl rfl rfl rfl (fun _ => rfl) rfl rfl ?_
      refine rn tk 8 rfl ?_
      cases hr
      exact atc rfl rfl
     ·
      refine rn tk 2 rfl ?_
      cases hr
      exact ato rfl rfl rfl rfl
    ·
     refine rn tk 8 rfl ?_
     refine awp_unmu 1022 rfl (hC ?_)
     refine awp_pub (d := 2) (F := TField.pc) (l := b15) rfl rfl (hC ?_)
     refine rn tk 1 rfl ?_
     cases hr
     exact kr tk (.inr rfl) rfl rfl
   ·
    refine rn tk 5 rfl ?_
    refine awpl_adopt 1026 (d := 26) 62 2 rfl rfl rfl (hO ?_)
    refine rn tk 4 rfl ?_
    refine ie tk [.hs 1026 0] [(0, .l (cL TField.pc) a0)] [(1026, .row 62 false 2 (List.map TField.pc (([] : List TField))))] (.inr rfl) rfl rfl rfl rfl (hO ?_)
    refine rn tk 7 rfl ?_
    refine wn tk rfl rfl rfl ?_
    refine rn tk 4 rfl ?_
    refine al1 hr (fun s22 => [(6, .hs 1026 0), (25, .l (cL TField.pc) a0), (26, .i ((a0.length : Int))), (27, .i s22.1)]) (fun s22 => [(1026, .row 62 false 2 (List.map TField.pc s22.2))]) (.exit 2) (fun b23 => [(6, .hs 1026 0)]) (fun b23 => [(1026, .row 62 false 2 (List.map TField.pc b23))]) rfl rfl (fun s22 x24 hr => ?_) (fun b23 hr => ?_)
    ·
     unfold slices_Concat_api_Field_api_Field_l3 at hr
     refine rn tk 6 rfl ?_
     refine ac 28 hr rfl (fun c25 hr => ?_) (fun c25 hr => ?_)
     ·
      refine rn tk 6 rfl ?_
      obtain ⟨v26, h27, hr⟩ := bind_some hr
      refine wi tk h27 rfl rfl rfl rfl rfl ?_
      refine rn tk 7 rfl ?_
      obtain ⟨v28, h29, hr⟩ := bind_some hr
      refine wa tk h29 rfl rfl rfl rfl (fun _ => rfl) rfl rfl ?_
      refine rn tk 8 rfl ?_
      cases hr
      exact atc rfl rfl
     ·
      refine rn tk 2 rfl ?_
      cases hr
      exact ato rfl rfl rfl rfl
    ·
     refine rn tk 8 rfl ?_
     refine awp_pub (d := 2) (F := TField.pc) (l := b23) rfl rfl (hC ?_)
     refine rn tk 1 rfl ?_
     cases hr
     exact kr tk (.inr rfl) rfl rfl
theorem trace_Front_run (a0 : TMessage) (a1 : Str) (a2 : Str) (r : TMessage) (hr : trace_Front a0 a1 a2 = some r) : Run Tryz.prog 61 [.agg [.l TField.pc a0.Fields, .l cU a0.Body], .s a1, .s a2] (.agg [.l TField.pc r.Fields, .l cU r.Body]) := by
 unfold trace_Front at hr
 refine rf (fn := Tryz.f61) ⟨Tryz.func61, rfl, by kernel_rfl⟩ rfl (fun _ => rfl) fun g0 hg => ?_
 refine rn tk 7 rfl ?_
 obtain ⟨v1, h2, hr⟩ := bind_some hr
 refine dr 10 [(16, .l cU a0.Body), (15, .ptr 3 1), (14, .l TField.pc v1), (13, .l (cL TField.pc) (([([(TField.mk a1 a2)] : List TField), a0.Fields] : List (List TField)))), (12, .l TField.pc a0.Fields), (11, .ptr 3 0), (10, .l TField.pc (([(TField.mk a1 a2)] : List TField))), (9, .agg [.s a1, .s a2]), (8, .s a2), (7, .s a1)] mixed (by kernel_rfl) rfl rfl (pq tk rfl (.plain rfl) (pq tk rfl (.plain rfl) (pq tk rfl (.plain rfl) (.run (.plain rfl) (opG_lit (F := TField.pc) (l := ([(TField.mk a1 a2)] : List TField)) ty_s_api_Field ty_api_Field rfl (fun _ => rfl) rfl rfl) (pq tk rfl (.plain rfl) (pq tk rfl (.plain rfl) (.run (.plain rfl) (opG_lit (F := (cL TField.pc)) (l := ([([(TField.mk a1 a2)] : List TField), a0.Fields] : List (List TField))) ty_s_s_api_Field ty_s_api_Field rfl (fun _ => rfl) rfl rfl) (.run (.plain rfl) (opG_call (slices_Concat_api_Field_api_Field_run (([([(TField.mk a1 a2)] : List TField), a0.Fields] : List (List TField))) v1 h2) rfl) (pq tk rfl (.plain rfl) (pq tk rfl (.plain rfl) .nil)))))))))) rfl ?_
 refine ct hr (fun j3 => [(6, .ptr 6 0), (14, .l TField.pc v1), (17, .l cU j3)]) (fun j3 => [(6, .cells [.l TField.pc ([]), .l cU ([])])]) (fun j3 hr jump1 => ?_) (fun j3 hr => ?_)
 ·
  refine il (fn := Tryz.f86) (args := [.l cU a0.Body]) 100000 199999 [(6, .ptr 6 0), (14, .l TField.pc v1)] rfl ⟨Tryz.func86, rfl, by kernel_rfl⟩ rfl rfl rfl fun T1 ds1 => ?_
  refine rn tk 9 rfl ?_
  refine awpl_isnil (d := 3) (F := cU) (l := a0.Body) rfl rfl rfl ty_s_uint8 (fun c4 => hO ?_) (hO ?_)
  ·
   replace hr := nilE_nil c4 hr
   refine rn tk 10 rfl ?_
   refine ie tk [.pv (.sl (some true) [])] [(6, .ptr 6 0), (14, .l TField.pc v1)] [(6, .cells [.pv (.sl (some true) []), .pv (.sl (some true) [])]), (3, .cells [.l TField.pc a0.Fields, .l cU a0.Body])] (.inr rfl) rfl rfl rfl rfl ?_
   cases hr
   exact jump1 _ _ rfl rfl
  ·
   replace hr := nilE_not hr
   refine rn tk 7 rfl ?_
   refine wo (opTo_litz (k := 5) rfl ty_s_uint8 ty_uint8) rfl ?_
   refine rn tk 1 rfl ?_
   obtain ⟨v5, h6, hr⟩ := bind_some hr
   refine wo (opTo_appendz (k := 7) (F := cU) (xs := a0.Body) (lim := 140737488355328) 1002 rfl rfl rfl ty_s_uint8 ty_uint8 rfl rfl (fun _ => rfl) rfl rfl rfl h6) rfl ?_
   refine rn tk 3 rfl ?_
   refine awp_unmu 1002 rfl (hC ?_)
   refine awp_pub (d := 2) (F := cU) (l := v5) rfl rfl (hC ?_)
   refine rn tk 1 rfl ?_
   refine ie tk [.l cU v5] [(6, .ptr 6 0), (14, .l TField.pc v1)] [(1002, .row 5 false 1 (List.map cU v5)), (6, .cells [.pv (.sl (some true) []), .pv (.sl (some true) [])]), (3, .cells [.l TField.pc a0.Fields, .l cU a0.Body])] (.inr rfl) rfl rfl rfl rfl ?_
   cases hr
   exact jump1 _ _ rfl rfl
 ·
  refine rn tk 5 rfl ?_
  cases hr
  exact kr tk (.inr rfl) rfl rfl
theorem forward_on_run (a0 : TForward) (a1 : TMail) (r : TMail) (hr : forward_on a0 a1 = some r) : Run Tryz.prog 36 [.agg [.s a0.Address, .l cS a0.To, .bo a0.Keep], .agg [.s a1.Envelope.From, .l TRecipient.pc a1.Envelope.To, .s a1.Envelope.Id, .l TField.pc a1.Message.Fields, .l cU a1.Message.Body]] (.agg [.s r.Envelope.From, .l TRecipient.pc r.Envelope.To, .s r.Envelope.Id, .l TField.pc r.Message.Fields, .l cU r.Message.Body]) := by
 unfold forward_on at hr
 refine rf (fn := Tryz.f36) ⟨Tryz.func36, rfl, by kernel_rfl⟩ rfl (fun _ => rfl) fun g0 hg => ?_
 refine rn tk 8 rfl ?_
 obtain ⟨v1, h2, hr⟩ := bind_some hr
 refine drA 14 [(5, .ptr 5 0), (20, .agg [.s a1.Envelope.From, .pv (.sl (some true) []), .s a1.Envelope.Id, .l TField.pc v1.Fields, .l cU v1.Body]), (19, .agg [.l TField.pc v1.Fields, .l cU v1.Body]), (18, .s a0.Address), (17, .ptr 2 0), (16, .agg [.l TField.pc a1.Message.Fields, .l cU a1.Message.Body]), (15, .ptr 3 3), (14, .agg [.s a1.Envelope.From, .pv (.sl (some true) []), .s a1.Envelope.Id]), (13, .s a1.Envelope.Id), (12, .ptr 3 2), (11, .ptr 3 0), (10, .s a1.Envelope.From), (9, .ptr 3 0), (8, .ptr 3 0)] mixed (by kernel_rfl) rfl rfl (pqA tk rfl (.plain rfl) (pqA tk rfl (.plain rfl) (pqA tk rfl (.plain rfl) (pqA tk rfl (.plain rfl) (pqA tk rfl (.plain rfl) (pqA tk rfl (.plain rfl) (pqA tk rfl (.plain rfl) (pqA tk rfl (.plain rfl) (pqA tk rfl (.plain rfl) (pqA tk rfl (.plain rfl) (pqA tk rfl (.plain rfl) (.run (.plain rfl) (opG_call (trace_Front_run a1.Message (([68, 101, 108, 105, 118, 101, 114, 101, 100, 45, 84, 111] : Str)) a0.Address v1 h2) rfl) (pqA tk rfl (.plain rfl) (pnA 5 tk rfl rfl rfl (.plain rfl) .nil)))))))))))))) rfl rfl rfl ?_
 refine awpl_adoptC 1005 (o := 5) (j := 1) 64 2 rfl rfl rfl rfl (hO ?_)
 refine rn tk 1 rfl ?_
 refine awpl_adoptC 2005 (o := 5) (j := 1) 64 2 rfl rfl rfl rfl (hO ?_)
 refine rn tk 7 rfl ?_
 refine wn tk rfl rfl rfl ?_
 refine rn tk 4 rfl ?_
 refine al1 hr (fun s3 => [(4, .ptr 4 0), (5, .ptr 5 0), (22, .l cS a0.To), (23, .i ((a0.To.length : Int))), (24, .i s3.1)]) (fun s3 => [(2005, .row 64 false 2 (List.map TRecipient.pc s3.2)), (5, .cells [.s a1.Envelope.From, .hs 2005 0, .s a1.Envelope.Id, .l TField.pc v1.Fields, .l cU v1.Body]), (4, .cells [.s (([] : Str)), .l TRecipient.pc ([]), .s (([] : Str)), .l TField.pc ([]), .l cU ([])])]) (.exit 0) (fun b4 => [(4, .ptr 4 0), (5, .ptr 5 0)]) (fun b4 => [(2005, .row 64 false 2 (List.map TRecipient.pc b4)), (5, .cells [.s a1.Envelope.From, .hs 2005 0, .s a1.Envelope.Id, .l TField.pc v1.Fields, .l cU v1.Body]), (4, .cells [.s (([] : Str)), .l TRecipient.pc ([]), .s (([] : Str)), .l TField.pc ([]), .l cU ([])])]) rfl rfl (fun s3 x5 hr => ?_) (fun b4 hr => ?_)
 ·
  unfold forward_on_l1 at hr
  refine rn tk 6 rfl ?_
  refine ac 25 hr rfl (fun c6 hr => ?_) (fun c6 hr => ?_)
  ·
   refine rn tk 2 rfl ?_
   refine jb hr (fun j7 => [(4, .ptr 4 0), (5, .ptr 5 0), (22, .l cS a0.To), (23, .i ((a0.To.length : Int))), (24, .i s3.1)]) (fun j7 => [(2005, .row 64 false 2 (List.map TRecipient.pc j7)), (5, .cells [.s a1.Envelope.From, .hs 2005 0, .s a1.Envelope.Id, .l TField.pc v1.Fields, .l cU v1.Body]), (4, .cells [.s (([] : Str)), .l TRecipient.pc ([]), .s (([] : Str)), .l TField.pc ([]), .l cU ([])])]) (fun j7 hr => ?_) (fun j7 hr => ?_)
   ·
    refine rn tk 3 rfl ?_
    obtain ⟨v8, h9, hr⟩ := bind_some hr
    refine wi tk h9 rfl rfl rfl rfl rfl ?_
    refine rn tk 11 rfl ?_
    refine il (fn := Tryz.f62) (args := [.hs 2005 0, .fn (.func 63) [] [.ptr 7 0]]) 2100000 2199999 [(4, .ptr 4 0), (5, .ptr 5 0), (7, .ptr 7 0), (22, .l cS a0.To), (23, .i ((a0.To.length : Int))), (24, .i s3.1)] rfl ⟨Tryz.func62, rfl, by kernel_rfl⟩ rfl rfl rfl fun T21 ds21 => ?_
    refine rn tk 9 rfl ?_
    refine ct hr (fun j10 => [(7, .i j10)]) (fun j10 => [(2199999, .sus g0.w.heap.size ds21), (2100004, .hold (.ptr 4 0) (T21.getD 4 undef)), (2100005, .hold (.ptr 5 0) (T21.getD 5 undef)), (2100022, .hold (.l cS a0.To) (T21.getD 22 undef)), (2100023, .hold (.i ((a0.To.length : Int))) (T21.getD 23 undef)), (2100024, .hold (.i s3.1) (T21.getD 24 undef)), (2100007, .hold (.ptr 7 0) (T21.getD 7 undef)), (7, .cells [.s v8]), (2005, .row 64 false 2 (List.map TRecipient.pc s3.2)), (5, .cells [.s a1.Envelope.From, .hs 2005 0, .s a1.Envelope.Id, .l TField.pc v1.Fields, .l cU v1.Body]), (4, .cells [.s (([] : Str)), .l TRecipient.pc ([]), .s (([] : Str)), .l TField.pc ([]), .l cU ([])])]) (fun j10 hr jump22 => ?_) (fun j10 hr => ?_)
    ·
     refine il (fn := Tryz.f87) (args := [.hs 2005 0, .fn (.func 63) [] [.ptr 7 0]]) 2200000 2299999 [] rfl ⟨Tryz.func87, rfl, by kernel_rfl⟩ rfl rfl rfl fun T22 ds22 => ?_
     refine rn tk 9 rfl ?_
     refine wnh tk rfl rfl rfl rfl ?_
     refine rn tk 4 rfl ?_
     refine al2 hr (fun s11 => [(0, .hs 2005 0), (1, .fn (.func 63) [] [.ptr 7 0]), (7, .i ((s3.2.length : Int))), (8, .i s11)]) (fun s11 => [(2299999, .sus g0.w.heap.size ds22), (2199999, .sus g0.w.heap.size ds21), (2100004, .hold (.ptr 4 0) (T21.getD 4 undef)), (2100005, .hold (.ptr 5 0) (T21.getD 5 undef)), (2100022, .hold (.l cS a0.To) (T21.getD 22 undef)), (2100023, .hold (.i ((a0.To.length : Int))) (T21.getD 23 undef)), (2100024, .hold (.i s3.1) (T21.getD 24 undef)), (2100007, .hold (.ptr 7 0) (T21.getD 7 undef)), (7, .cells [.s v8]), (2005, .row 64 false 2 (List.map TRecipient.pc s3.2)), (5, .cells [.s a1.Envelope.From, .hs 2005 0, .s a1.Envelope.Id, .l TField.pc v1.Fields, .l cU v1.Body]), (4, .cells [.s (([] : Str)), .l TRecipient.pc ([]), .s (([] : Str)), .l TField.pc ([]), .l cU ([])])]) (.exit 0) (fun b12 => []) (fun b12 => [(2299999, .sus g0.w.heap.size ds22), (2199999, .sus g0.w.heap.size ds21), (2100004, .hold (.ptr 4 0) (T21.getD 4 undef)), (2100005, .hold (.ptr 5 0) (T21.getD 5 undef)), (2100022, .hold (.l cS a0.To) (T21.getD 22 undef)), (2100023, .hold (.i ((a0.To.length : Int))) (T21.getD 23 undef)), (2100024, .hold (.i s3.1) (T21.getD 24 undef)), (2100007, .hold (.ptr 7 0) (T21.getD 7 undef)), (7, .cells [.s v8]), (2005, .row 64 false 2 (List.map TRecipient.pc s3.2)), (5, .cells [.s a1.Envelope.From, .hs 2005 0, .s a1.Envelope.Id, .l TField.pc v1.Fields, .l cU v1.Body]), (4, .cells [.s (([] : Str)), .l TRecipient.pc ([]), .s (([] : Str)), .l TField.pc ([]), .l cU ([])])]) .ret (fun b13 => [(4, .i b13)]) (fun b13 => [(2299999, .sus g0.w.heap.size ds22), (2199999, .sus g0.w.heap.size ds21), (2100004, .hold (.ptr 4 0) (T21.getD 4 undef)), (2100005, .hold (.ptr 5 0) (T21.getD 5 undef)), (2100022, .hold (.l cS a0.To) (T21.getD 22 undef)), (2100023, .hold (.i ((a0.To.length : Int))) (T21.getD 23 undef)), (2100024, .hold (.i s3.1) (T21.getD 24 undef)), (2100007, .hold (.ptr 7 0) (T21.getD 7 undef)), (7, .cells [.s v8]), (2005, .row 64 false 2 (List.map TRecipient.pc s3.2)), (5, .cells [.s a1.Envelope.From, .hs 2005 0, .s a1.Envelope.Id, .l TField.pc v1.Fields, .l cU v1.Body]), (4, .cells [.s (([] : Str)), .l TRecipient.pc ([]), .s (([] : Str)), .l TField.pc ([]), .l cU ([])])]) rfl rfl (fun s11 x15 hr => ?_) (fun b12 hr => ?_) (fun b13 hr => ?_)
     ·
      unfold forward_on_l2 at hr
      refine rn tk 6 rfl ?_
      refine ac 9 hr rfl (fun c16 hr => ?_) (fun c16 hr => ?_)
      ·
       refine rn tk 15 rfl ?_
       refine awpl_pub (d := 12) (F := TRecipient.pc) (l := s3.2) rfl rfl (hO ?_)
       obtain ⟨v17, h18, hr⟩ := bind_some hr
       refine wi tk h18 rfl rfl rfl rfl rfl ?_
       refine rn tk 1 rfl ?_
       refine il (fn := Tryz.f63) (args := [.agg [.s v17.Address, .i v17.Notify], .ptr 7 0]) 2400000 2499999 [(0, .hs 2005 0), (1, .fn (.func 63) [] [.ptr 7 0]), (5, .i s11), (7, .i ((s3.2.length : Int))), (8, .i s11)] rfl ⟨Tryz.func63, rfl, by kernel_rfl⟩ rfl rfl rfl fun T24 ds24 => ?_
       refine rn tk 16 rfl ?_
       refine ie tk [.bo ((v17.Address == v8))] [(0, .hs 2005 0), (1, .fn (.func 63) [] [.ptr 7 0]), (5, .i s11), (7, .i ((s3.2.length : Int))), (8, .i s11)] [(2, .cells [.s v17.Address, .i v17.Notify]), (2299999, .sus g0.w.heap.size ds22), (2199999, .sus g0.w.heap.size ds21), (2100004, .hold (.ptr 4 0) (T21.getD 4 undef)), (2100005, .hold (.ptr 5 0) (T21.getD 5 undef)), (2100022, .hold (.l cS a0.To) (T21.getD 22 undef)), (2100023, .hold (.i ((a0.To.length : Int))) (T21.getD 23 undef)), (2100024, .hold (.i s3.1) (T21.getD 24 undef)), (2100007, .hold (.ptr 7 0) (T21.getD 7 undef)), (7, .cells [.s v8]), (2005, .row 64 false 2 (List.map TRecipient.pc s3.2)), (5, .cells [.s a1.Envelope.From, .hs 2005 0, .s a1.Envelope.Id, .l TField.pc v1.Fields, .l cU v1.Body]), (4, .cells [.s (([] : Str)), .l TRecipient.pc ([]), .s (([] : Str)), .l TField.pc ([]), .l cU ([])])] (.inr rfl) rfl rfl rfl rfl (hO ?_)
       refine rn tk 2 rfl ?_
       refine ac 16 hr rfl (fun c19 hr => ?_) (fun c19 hr => ?_)
       ·
        refine rn tk 9 rfl ?_
        cases hr
        exact ato rfl rfl rfl rfl
       ·
        refine rn tk 7 rfl ?_
        cases hr
        exact atc rfl rfl
      ·
       refine rn tk 2 rfl ?_
       cases hr
       exact ato rfl rfl rfl rfl
     ·
      refine rn tk 8 rfl ?_
      refine ie tk [.i ((-1))] [] [(2199999, .sus g0.w.heap.size ds21), (2100004, .hold (.ptr 4 0) (T21.getD 4 undef)), (2100005, .hold (.ptr 5 0) (T21.getD 5 undef)), (2100022, .hold (.l cS a0.To) (T21.getD 22 undef)), (2100023, .hold (.i ((a0.To.length : Int))) (T21.getD 23 undef)), (2100024, .hold (.i s3.1) (T21.getD 24 undef)), (2100007, .hold (.ptr 7 0) (T21.getD 7 undef)), (7, .cells [.s v8]), (2005, .row 64 false 2 (List.map TRecipient.pc s3.2)), (5, .cells [.s a1.Envelope.From, .hs 2005 0, .s a1.Envelope.Id, .l TField.pc v1.Fields, .l cU v1.Body]), (4, .cells [.s (([] : Str)), .l TRecipient.pc ([]), .s (([] : Str)), .l TField.pc ([]), .l cU ([])])] (.inr rfl) rfl rfl rfl rfl ?_
      cases hr
      exact jump22 _ _ rfl rfl
     ·
      refine rn tk 2 rfl ?_
      refine ie tk [.i b13] [] [(2199999, .sus g0.w.heap.size ds21), (2100004, .hold (.ptr 4 0) (T21.getD 4 undef)), (2100005, .hold (.ptr 5 0) (T21.getD 5 undef)), (2100022, .hold (.l cS a0.To) (T21.getD 22 undef)), (2100023, .hold (.i ((a0.To.length : Int))) (T21.getD 23 undef)), (2100024, .hold (.i s3.1) (T21.getD 24 undef)), (2100007, .hold (.ptr 7 0) (T21.getD 7 undef)), (7, .cells [.s v8]), (2005, .row 64 false 2 (List.map TRecipient.pc s3.2)), (5, .cells [.s a1.Envelope.From, .hs 2005 0, .s a1.Envelope.Id, .l TField.pc v1.Fields, .l cU v1.Body]), (4, .cells [.s (([] : Str)), .l TRecipient.pc ([]), .s (([] : Str)), .l TField.pc ([]), .l cU ([])])] (.inr rfl) rfl rfl rfl rfl ?_
      cases hr
      exact jump22 _ _ rfl rfl
    ·
     refine rn tk 5 rfl ?_
     refine ie tk [.bo (decide (0 ≤ j10))] [(4, .ptr 4 0), (5, .ptr 5 0), (7, .ptr 7 0), (22, .l cS a0.To), (23, .i ((a0.To.length : Int))), (24, .i s3.1)] [(7, .cells [.s v8]), (2005, .row 64 false 2 (List.map TRecipient.pc s3.2)), (5, .cells [.s a1.Envelope.From, .hs 2005 0, .s a1.Envelope.Id, .l TField.pc v1.Fields, .l cU v1.Body]), (4, .cells [.s (([] : Str)), .l TRecipient.pc ([]), .s (([] : Str)), .l TField.pc ([]), .l cU ([])])] (.inr rfl) rfl rfl rfl rfl (hO ?_)
     refine rn tk 3 rfl ?_
     refine ac 33 hr rfl (fun c20 hr => ?_) (fun c20 hr => ?_)
     ·
      refine rn tk 6 rfl ?_
      refine wz TRecipient.pc ([(TRecipient.mk v8 0)] : List TRecipient) tk rfl rfl (fun _ => rfl) rfl rfl rfl ?_
      obtain ⟨v21, h22, hr⟩ := bind_some hr
      refine wa tk h22 rfl rfl rfl rfl (fun _ => rfl) rfl rfl ?_
      refine rn tk 5 rfl ?_
      cases hr
      exact jn _ rfl rfl rfl
     ·
      refine rn tk 2 rfl ?_
      cases hr
      exact jn _ rfl rfl rfl
   ·
    refine rn tk 4 rfl ?_
    cases hr
    exact atc rfl rfl
  ·
   refine rn tk 2 rfl ?_
   cases hr
   exact ato rfl rfl rfl rfl
 ·
  refine rn tk 8 rfl ?_
  refine awp_pubC (o := 4) (j := 1) (F := TRecipient.pc) (l := b4) rfl rfl rfl (hC ?_)
  refine rn tk 1 rfl ?_
  cases hr
  exact kr tk (.inr rfl) rfl rfl
theorem basic_Lower_run (a0 : Str) (r : Str) (hr : basic_Lower a0 = some r) : Run Tryz.prog 84 [.s a0] (.s r) := by
 unfold basic_Lower at hr
 refine rf (fn := Tryz.f84) ⟨Tryz.func84, rfl, by kernel_rfl⟩ rfl (fun _ => rfl) fun g0 hg => ?_
 refine rn tk 8 rfl ?_
 refine wo (opTo_s2buf (k := 7) (s := a0) 1007 rfl rfl rfl rfl ty_string ty_s_uint8 ty_uint8) rfl ?_
 refine rn tk 7 rfl ?_
 refine wq (ev_buflen (l := a0) rfl rfl ty_s_uint8.u) rfl rfl rfl ?_
 refine rn tk 4 rfl ?_
 refine al1 hr (fun s1 => [(3, .hs 1007 0), (8, .hs 1007 0), (9, .i ((a0.length : Int))), (10, .i s1.1)]) (fun s1 => [(1007, .buf s1.2)]) (.exit 0) (fun b2 => [(3, .hs 1007 0)]) (fun b2 => [(1007, .buf b2)]) rfl rfl (fun s1 x3 hr => ?_) (fun b2 hr => ?_)
 ·
  unfold basic_Lower_l1 at hr
  refine rn tk 6 rfl ?_
  refine ac 11 hr rfl (fun c4 hr => ?_) (fun c4 hr => ?_)
  ·
   refine rn tk 2 rfl ?_
   refine jb hr (fun j5 => [(3, .hs 1007 0), (8, .hs 1007 0), (9, .i ((a0.length : Int))), (10, .i s1.1)]) (fun j5 => [(1007, .buf j5)]) (fun j5 hr => ?_) (fun j5 hr => ?_)
   ·
    refine rn tk 4 rfl ?_
    obtain ⟨v6, h7, hr⟩ := bind_some hr
    refine wq (ev_bufidx (l := s1.2) (n := s1.1) rfl rfl rfl ty_s_uint8 ty_uint8 h7) rfl rfl rfl ?_
    obtain ⟨v8, h9, hr⟩ := bind_some hr
    refine wq (ev_bufload (l := s1.2) (n := s1.1) rfl rfl ty_uint8 h9) rfl rfl rfl ?_
    refine rn tk 4 rfl ?_
    refine jb hr (fun j10 => [(3, .hs 1007 0), (4, .i s1.1), (5, .u8 v8), (8, .hs 1007 0), (9, .i ((a0.length : Int))), (10, .i s1.1), (20, .bo j10)]) (fun j10 => [(1007, .buf s1.2)]) (fun j10 hr => ?_) (fun j10 hr => ?_)
    ·
     refine rn tk 4 rfl ?_
     refine bs 17 hr rfl (fun c11 hr => ?_) (fun c11 hr => ?_)
     ·
      refine rn tk 4 rfl ?_
      cases hr
      exact jn _ rfl rfl rfl
     ·
      refine rn tk 4 rfl ?_
      cases hr
      exact jn _ rfl rfl rfl
    ·
     refine ac 20 hr rfl (fun c12 hr => ?_) (fun c12 hr => ?_)
     ·
      refine rn tk 4 rfl ?_
      refine wq (ev_u8add (a := v8) (b := (97 : UInt8)) rfl rfl) rfl rfl rfl ?_
      refine wq (ev_u8sub (a := ((v8 + (97 : UInt8)))) (b := (65 : UInt8)) rfl rfl) rfl rfl rfl ?_
      obtain ⟨v13, h14, hr⟩ := bind_some hr
      refine wq (ev_bufidx (l := s1.2) (n := s1.1) rfl rfl rfl ty_s_uint8 ty_uint8 h14) rfl rfl rfl ?_
      obtain ⟨v15, h16, hr⟩ := bind_some hr
      refine wo (opTo_bufstore (l := s1.2) (n := s1.1) (v := v15) (v' := (((v8 + (97 : UInt8)) - (65 : UInt8)))) rfl rfl rfl ty_uint8 h16) rfl ?_
      refine rn tk 2 rfl ?_
      cases hr
      exact jn _ rfl rfl rfl
     ·
      refine rn tk 2 rfl ?_
      cases hr
      exact jn _ rfl rfl rfl
   ·
    refine rn tk 4 rfl ?_
    cases hr
    exact atc rfl rfl
  ·
   refine rn tk 2 rfl ?_
   cases hr
   exact ato rfl rfl rfl rfl
 ·
  refine rn tk 5 rfl ?_
  refine wq (ev_buf2s (l := b2) rfl rfl ty_s_uint8 ty_uint8 ty_string) rfl rfl rfl ?_
  refine rn tk 4 rfl ?_
  cases hr
  exact kr tk (.inr rfl) rfl rfl
theorem basic_Same_run (a0 : Str) (a1 : Str) (r : Bool) (hr : basic_Same a0 a1 = some r) : Run Tryz.prog 59 [.s a0, .s a1] (.bo r) := by
 unfold basic_Same at hr
 refine rf (fn := Tryz.f59) ⟨Tryz.func59, rfl, by kernel_rfl⟩ rfl (fun _ => rfl) fun g0 hg => ?_
 refine rn tk 5 rfl ?_
 refine jb hr (fun j1 => [(4, .bo j1)]) (fun j1 => []) (fun j1 hr => ?_) (fun j1 hr => ?_)
 ·
  refine rn tk 7 rfl ?_
  refine bs 10 hr rfl (fun c2 hr => ?_) (fun c2 hr => ?_)
  ·
   refine rn tk 1 rfl ?_
   obtain ⟨v3, h4, hr⟩ := bind_some hr
   refine ug rfl rfl rfl ?_
   refine cl (basic_Lower_run _ _ h4) rfl rfl ?_
   refine rn tk 1 rfl ?_
   obtain ⟨v5, h6, hr⟩ := bind_some hr
   refine ug rfl rfl rfl ?_
   refine cl (basic_Lower_run _ _ h6) rfl rfl ?_
   refine rn tk 4 rfl ?_
   cases hr
   exact jn _ rfl rfl rfl
  ·
   refine rn tk 8 rfl ?_
   cases hr
   exact jn _ rfl rfl rfl
 ·
  refine rn tk 1 rfl ?_
  cases hr
  exact kr tk (.inr rfl) rfl rfl
theorem header_name_run (a0 : Str) (r : Bool) (hr : header_name a0 = some r) : Run Tryz.prog 83 [.s a0] (.bo r) := by
 unfold header_name at hr
 refine rf (fn := Tryz.f83) ⟨Tryz.func83, rfl, by kernel_rfl⟩ rfl (fun _ => rfl) fun g0 hg => ?_
 refine rn tk 8 rfl ?_
 obtain ⟨v1, h2, hr⟩ := bind_some hr
 refine cl (fold_Fold_run _ _ _ h2) rfl rfl ?_
 refine rn tk 11 rfl ?_
 obtain ⟨v3, h4, hr⟩ := bind_some hr
 refine cl (basic_Failed_run _ _ h4) rfl rfl ?_
 refine rn tk 5 rfl ?_
 cases hr
 exact kr tk (.inr rfl) rfl rfl
theorem header_valid_run (a0 : List TField) (a1 : Str) (r : TFault) (hr : header_valid a0 a1 = some r) : Run Tryz.prog 58 [.l TField.pc a0, .s a1] (.agg [.i r.Code, .i r.Index]) := by
 unfold header_valid at hr
 refine rf (fn := Tryz.f58) ⟨Tryz.func58, rfl, by kernel_rfl⟩ rfl (fun _ => rfl) fun g0 hg => ?_
 refine rn tk 9 rfl ?_
 obtain ⟨v1, h2, hr⟩ := bind_some hr
 refine cl (header_Validate_run _ _ h2) rfl rfl ?_
 refine rn tk 7 rfl ?_
 obtain ⟨v3, h4, hr⟩ := bind_some hr
 refine cl (basic_Failed_run _ _ h4) rfl rfl ?_
 refine rn tk 2 rfl ?_
 refine ac 9 hr rfl (fun c5 hr => ?_) (fun c5 hr => ?_)
 ·
  refine rn tk 8 rfl ?_
  cases hr
  exact kr tk (.inr rfl) rfl rfl
 ·
  refine rn tk 6 rfl ?_
  obtain ⟨v6, h7, hr⟩ := bind_some hr
  refine cl (header_name_run _ _ h7) rfl rfl ?_
  refine rn tk 3 rfl ?_
  refine ac 13 hr rfl (fun c8 hr => ?_) (fun c8 hr => ?_)
  ·
   refine rn tk 2 rfl ?_
   obtain ⟨v9, h10, hr⟩ := bind_some hr
   refine cl (basic_Fault_run _ _ _ h10) rfl rfl ?_
   refine rn tk 5 rfl ?_
   cases hr
   exact kr tk (.inr rfl) rfl rfl
  ·
   refine rn tk 4 rfl ?_
   obtain ⟨v11, h12, hr⟩ := bind_some hr
   refine cl (basic_None_run _ h12) rfl rfl ?_
   refine rn tk 4 rfl ?_
   cases hr
   exact kr tk (.inr rfl) rfl rfl
theorem header_Get_run (a0 : List TField) (a1 : Str) (r : (List Str) × TFault) (hr : header_Get a0 a1 = some r) : Run Tryz.prog 34 [.l TField.pc a0, .s a1] (.tup [.l cS r.1, .agg [.i r.2.Code, .i r.2.Index]]) := by
 unfold header_Get at hr
 refine rf (fn := Tryz.f34) ⟨Tryz.func34, rfl, by kernel_rfl⟩ rfl (fun _ => rfl) fun g0 hg => ?_
 refine rn tk 11 rfl ?_
 obtain ⟨v1, h2, hr⟩ := bind_some hr
 refine cl (header_valid_run _ _ _ h2) rfl rfl ?_
 refine rn tk 7 rfl ?_
 obtain ⟨v3, h4, hr⟩ := bind_some hr
 refine cl (basic_Failed_run _ _ h4) rfl rfl ?_
 refine rn tk 2 rfl ?_
 refine ac 14 hr rfl (fun c5 hr => ?_) (fun c5 hr => ?_)
 ·
  refine rn tk 1 rfl ?_
  refine dr 2 [(4, .pv (.sl (some true) [])), (15, .agg [.i v1.Code, .i v1.Index])] mixed (by kernel_rfl) rfl rfl (pq tk rfl (.plain rfl) (pq tk rfl (.plain rfl) .nil)) rfl ?_
  refine rn tk 5 rfl ?_
  cases hr
  exact kr tk (.inr rfl) rfl rfl
 ·
  refine rn tk 5 rfl ?_
  refine awpl_adopt 1007 (d := 7) 9 1 rfl rfl rfl (hO ?_)
  refine rn tk 6 rfl ?_
  refine wn tk rfl rfl rfl ?_
  refine rn tk 4 rfl ?_
  refine al1 hr (fun s6 => [(1, .s a1), (5, .ptr 5 0), (7, .hs 1007 0), (16, .l TField.pc a0), (17, .i ((a0.length : Int))), (18, .i s6.1)]) (fun s6 => [(1007, .row 9 false 1 (List.map cS s6.2)), (5, .cells [.i 0, .i 0])]) (.exit 0) (fun b7 => [(5, .ptr 5 0), (7, .hs 1007 0)]) (fun b7 => [(1007, .row 9 false 1 (List.map cS b7)), (5, .cells [.i 0, .i 0])]) rfl rfl (fun s6 x8 hr => ?_) (fun b7 hr => ?_)
  ·
   unfold header_Get_l1 at hr
   refine rn tk 6 rfl ?_
   refine ac 19 hr rfl (fun c9 hr => ?_) (fun c9 hr => ?_)
   ·
    refine rn tk 2 rfl ?_
    refine jb hr (fun j10 => [(1, .s a1), (5, .ptr 5 0), (7, .hs 1007 0), (16, .l TField.pc a0), (17, .i ((a0.length : Int))), (18, .i s6.1)]) (fun j10 => [(1007, .row 9 false 1 (List.map cS j10)), (5, .cells [.i 0, .i 0])]) (fun j10 hr => ?_) (fun j10 hr => ?_)
    ·
     refine rn tk 3 rfl ?_
     obtain ⟨v11, h12, hr⟩ := bind_some hr
     refine wi tk h12 rfl rfl rfl rfl rfl ?_
     refine rn tk 10 rfl ?_
     obtain ⟨v13, h14, hr⟩ := bind_some hr
     refine cl (basic_Same_run _ _ _ h14) rfl rfl ?_
     refine rn tk 2 rfl ?_
     refine ac 25 hr rfl (fun c15 hr => ?_) (fun c15 hr => ?_)
     ·
      refine rn tk 4 rfl ?_
      refine wz cS ([v11.Value] : List Str) tk rfl rfl (fun _ => rfl) rfl rfl rfl ?_
      obtain ⟨v16, h17, hr⟩ := bind_some hr
      refine wa tk h17 rfl rfl rfl rfl (fun _ => rfl) rfl rfl ?_
      refine rn tk 3 rfl ?_
      cases hr
      exact jn _ rfl rfl rfl
     ·
      refine rn tk 2 rfl ?_
      cases hr
      exact jn _ rfl rfl rfl
    ·
     refine rn tk 4 rfl ?_
     cases hr
     exact atc rfl rfl
   ·
    refine rn tk 2 rfl ?_
    cases hr
    exact ato rfl rfl rfl rfl
  ·
   refine rn tk 5 rfl ?_
   obtain ⟨v18, h19, hr⟩ := bind_some hr
   refine cl (basic_None_run _ h19) rfl rfl ?_
   refine rn tk 4 rfl ?_
   refine awp_pub (d := 4) (F := cS) (l := b7) rfl rfl (hC ?_)
   refine rn tk 1 rfl ?_
   cases hr
   exact kr tk (.inr rfl) rfl rfl
theorem slices_Index_string_string_run (a0 : List Str) (a1 : Str) (r : Int) (hr : slices_Index_string_string a0 a1 = some r) : Run Tryz.prog 60 [.l cS a0, .s a1] (.i r) := by
 unfold slices_Index_string_string at hr
 refine rf (fn := Tryz.f60) ⟨Tryz.func60, rfl, by kernel_rfl⟩ rfl (fun _ => rfl) fun g0 hg => ?_
 refine rn tk 9 rfl ?_
 refine wn tk rfl rfl rfl ?_
 refine rn tk 4 rfl ?_
 refine al2 hr (fun s1 => [(0, .l cS a0), (1, .s a1), (7, .i ((a0.length : Int))), (8, .i s1)]) (fun s1 => []) (.exit 0) (fun b2 => []) (fun b2 => []) .ret (fun b3 => [(4, .i b3)]) (fun b3 => []) rfl rfl (fun s1 x5 hr => ?_) (fun b2 hr => ?_) (fun b3 hr => ?_)
 ·
  unfold slices_Index_string_string_l1 at hr
  refine rn tk 6 rfl ?_
  refine ac 9 hr rfl (fun c6 hr => ?_) (fun c6 hr => ?_)
  ·
   refine rn tk 15 rfl ?_
   obtain ⟨v7, h8, hr⟩ := bind_some hr
   refine wi tk h8 rfl rfl rfl rfl rfl ?_
   refine rn tk 4 rfl ?_
   refine ac 16 hr rfl (fun c9 hr => ?_) (fun c9 hr => ?_)
   ·
    refine rn tk 9 rfl ?_
    cases hr
    exact ato rfl rfl rfl rfl
   ·
    refine rn tk 7 rfl ?_
    cases hr
    exact atc rfl rfl
  ·
   refine rn tk 2 rfl ?_
   cases hr
   exact ato rfl rfl rfl rfl
 ·
  refine rn tk 8 rfl ?_
  cases hr
  exact kr tk (.inr rfl) rfl rfl
 ·
  refine rn tk 2 rfl ?_
  cases hr
  exact kr tk (.inr rfl) rfl rfl
theorem slices_Contains_string_string_run (a0 : List Str) (a1 : Str) (r : Bool) (hr : slices_Contains_string_string a0 a1 = some r) : Run Tryz.prog 35 [.l cS a0, .s a1] (.bo r) := by
 unfold slices_Contains_string_string at hr
 refine rf (fn := Tryz.f35) ⟨Tryz.func35, rfl, by kernel_rfl⟩ rfl (fun _ => rfl) fun g0 hg => ?_
 refine rn tk 9 rfl ?_
 obtain ⟨v1, h2, hr⟩ := bind_some hr
 refine cl (slices_Index_string_string_run _ _ _ h2) rfl rfl ?_
 refine rn tk 5 rfl ?_
 cases hr
 exact kr tk (.inr rfl) rfl rfl
theorem forward_Step_run (a0 : List TForward) (a1 : TMail) (r : (List Str) × (List TMail) × (List Str) × TFault) (hr : forward_Step a0 a1 = some r) : Run Tryz.prog 13 [.l TForward.pc a0, .agg [.s a1.Envelope.From, .l TRecipient.pc a1.Envelope.To, .s a1.Envelope.Id, .l TField.pc a1.Message.Fields, .l cU a1.Message.Body]] (.tup [.l cS r.1, .l TMail.pc r.2.1, .l cS r.2.2.1, .agg [.i r.2.2.2.Code, .i r.2.2.2.Index]]) := by
 unfold forward_Step at hr
 refine rf (fn := Tryz.f13) ⟨Tryz.func13, rfl, by kernel_rfl⟩ rfl (fun _ => rfl) fun g0 hg => ?_
 refine rn tk 4 rfl ?_
 refine awpl_adopt 1004 (d := 4) 9 1 rfl rfl rfl (hO ?_)
 refine rn tk 1 rfl ?_
 refine awpl_adopt 1005 (d := 5) 43 5 rfl rfl rfl (hO ?_)
 refine rn tk 1 rfl ?_
 refine awpl_adopt 1006 (d := 6) 9 1 rfl rfl rfl (hO ?_)
 refine rn tk 7 rfl ?_
 obtain ⟨v1, h2, hr⟩ := bind_some hr
 refine cl (forward_Validate_run _ _ h2) rfl rfl ?_
 refine rn tk 7 rfl ?_
 obtain ⟨v3, h4, hr⟩ := bind_some hr
 refine cl (basic_Failed_run _ _ h4) rfl rfl ?_
 refine rn tk 2 rfl ?_
 refine ac 20 hr rfl (fun c5 hr => ?_) (fun c5 hr => ?_)
 ·
  refine rn tk 1 rfl ?_
  refine dr 4 [(6, .pv (.sl (some true) [])), (5, .pv (.sl (some true) [])), (4, .pv (.sl (some true) [])), (21, .agg [.i v1.Code, .i v1.Index])] mixed (by kernel_rfl) rfl rfl (pq tk rfl (.plain rfl) (pq tk rfl (.plain rfl) (pq tk rfl (.plain rfl) (pq tk rfl (.plain rfl) .nil)))) rfl ?_
  refine awpl_adopt 2004 (d := 4) 9 1 rfl rfl rfl (hO ?_)
  refine awpl_adopt 2005 (d := 5) 43 5 rfl rfl rfl (hO ?_)
  refine awpl_adopt 2006 (d := 6) 9 1 rfl rfl rfl (hO ?_)
  refine rn tk 3 rfl ?_
  refine awp_pub (d := 4) (F := cS) (l := (([] : List Str))) rfl rfl (hC ?_)
  refine awp_pub (d := 5) (F := TMail.pc) (l := (([] : List TMail))) rfl rfl (hC ?_)
  refine awp_pub (d := 6) (F := cS) (l := (([] : List Str))) rfl rfl (hC ?_)
  refine rn tk 2 rfl ?_
  cases hr
  exact kr tk (.inr rfl) rfl rfl
 ·
  refine rn tk 6 rfl ?_
  obtain ⟨v6, h7, hr⟩ := bind_some hr
  refine cl (envelope_Check_run _ _ h7) rfl rfl ?_
  refine rn tk 7 rfl ?_
  obtain ⟨v8, h9, hr⟩ := bind_some hr
  refine cl (basic_Failed_run _ _ h9) rfl rfl ?_
  refine rn tk 2 rfl ?_
  refine ac 25 hr rfl (fun c10 hr => ?_) (fun c10 hr => ?_)
  ·
   refine rn tk 4 rfl ?_
   obtain ⟨v11, h12, hr⟩ := bind_some hr
   refine cl (basic_Fault_run _ _ _ h12) rfl rfl ?_
   refine rn tk 1 rfl ?_
   refine awpl_adopt 2004 (d := 4) 9 1 rfl rfl rfl (hO ?_)
   refine rn tk 1 rfl ?_
   refine awpl_adopt 2005 (d := 5) 43 5 rfl rfl rfl (hO ?_)
   refine rn tk 1 rfl ?_
   refine awpl_adopt 2006 (d := 6) 9 1 rfl rfl rfl (hO ?_)
   refine rn tk 3 rfl ?_
   refine awp_pub (d := 4) (F := cS) (l := (([] : List Str))) rfl rfl (hC ?_)
   refine awp_pub (d := 5) (F := TMail.pc) (l := (([] : List TMail))) rfl rfl (hC ?_)
   refine awp_pub (d := 6) (F := cS) (l := (([] : List Str))) rfl rfl (hC ?_)
   refine rn tk 2 rfl ?_
   cases hr
   exact kr tk (.inr rfl) rfl rfl
  ·
   refine rn tk 7 rfl ?_
   obtain ⟨v13, h14, hr⟩ := bind_some hr
   refine cl (header_Get_run _ _ _ h14) rfl rfl ?_
   refine rn tk 14 rfl ?_
   refine wn tk rfl rfl rfl ?_
   refine rn tk 4 rfl ?_
   refine al2 hr (fun s15 => [(0, .l TForward.pc a0), (3, .ptr 3 0), (4, .hs 1004 0), (5, .hs 1005 0), (6, .hs 1006 0), (7, .ptr 7 0), (10, .l cS v13.1), (38, .l TRecipient.pc a1.Envelope.To), (39, .i ((a1.Envelope.To.length : Int))), (40, .i s15.1)]) (fun s15 => [(7, .cells [.i 0, .i 0]), (1006, .row 9 false 1 (List.map cS s15.2.1)), (1005, .row 43 false 5 (List.map TMail.pc s15.2.2.1)), (1004, .row 9 false 1 (List.map cS s15.2.2.2)), (3, .cells [.s a1.Envelope.From, .l TRecipient.pc a1.Envelope.To, .s a1.Envelope.Id, .l TField.pc a1.Message.Fields, .l cU a1.Message.Body])]) (.exit 0) (fun b16 => [(4, .hs 1004 0), (5, .hs 1005 0), (6, .hs 1006 0), (7, .ptr 7 0)]) (fun b16 => [(7, .cells [.i 0, .i 0]), (1006, .row 9 false 1 (List.map cS b16.1)), (1005, .row 43 false 5 (List.map TMail.pc b16.2.1)), (1004, .row 9 false 1 (List.map cS b16.2.2))]) .ret (fun b17 => [(4, .l cS b17.1), (5, .l TMail.pc b17.2.1), (6, .l cS b17.2.2.1), (7, .ptr 7 0)]) (fun b17 => [(7, .cells [.i b17.2.2.2.Code, .i b17.2.2.2.Index])]) rfl rfl (fun s15 x19 hr => ?_) (fun b16 hr => ?_) (fun b17 hr => ?_)
   ·
    unfold forward_Step_l1 at hr
    refine rn tk 6 rfl ?_
    refine ac 41 hr rfl (fun c20 hr => ?_) (fun c20 hr => ?_)
    ·
     refine rn tk 2 rfl ?_
     refine jk (fun j21 => [(0, .l TForward.pc a0), (3, .ptr 3 0), (4, .hs 1004 0), (5, .hs 1005 0), (6, .hs 1006 0), (7, .ptr 7 0), (10, .l cS v13.1), (38, .l TRecipient.pc a1.Envelope.To), (39, .i ((a1.Envelope.To.length : Int))), (40, .i s15.1)]) (fun j21 => [(7, .cells [.i 0, .i 0]), (1006, .row 9 false 1 (List.map cS j21.1)), (1005, .row 43 false 5 (List.map TMail.pc j21.2.1)), (1004, .row 9 false 1 (List.map cS j21.2.2)), (3, .cells [.s a1.Envelope.From, .l TRecipient.pc a1.Envelope.To, .s a1.Envelope.Id, .l TField.pc a1.Message.Fields, .l cU a1.Message.Body])]) (fun j21 => forward_Step_k2 s15 j21 = some x19) ?_ ?_
     ·
      refine rn tk 3 rfl ?_
      obtain ⟨v22, h23, hr⟩ := bind_some hr
      refine wi tk h23 rfl rfl rfl rfl rfl ?_
      refine rn tk 10 rfl ?_
      obtain ⟨v24, h25, hr⟩ := bind_some hr
      refine cl (forward_find_run _ _ _ h25) rfl rfl ?_
      refine rn tk 3 rfl ?_
      refine jk (fun j26 => [(0, .l TForward.pc a0), (3, .ptr 3 0), (4, .hs 1004 0), (5, .hs 1005 0), (6, .hs 1006 0), (7, .ptr 7 0), (10, .l cS v13.1), (14, .i v24), (38, .l TRecipient.pc a1.Envelope.To), (39, .i ((a1.Envelope.To.length : Int))), (40, .i s15.1)]) (fun j26 => [(7, .cells [.i 0, .i 0]), (1006, .row 9 false 1 (List.map cS s15.2.1)), (1005, .row 43 false 5 (List.map TMail.pc s15.2.2.1)), (1004, .row 9 false 1 (List.map cS j26)), (3, .cells [.s a1.Envelope.From, .l TRecipient.pc a1.Envelope.To, .s a1.Envelope.Id, .l TField.pc a1.Message.Fields, .l cU a1.Message.Body])]) (fun j26 => forward_Step_k3 a0 a1 s15 v24 j26 = some x19) ?_ ?_
      ·
       refine rn tk 8 rfl ?_
       refine ac 48 hr rfl (fun c40 hr => ?_) (fun c40 hr => ?_)
       ·
        refine rn tk 5 rfl ?_
        refine wz cS ([v22.Address] : List Str) tk rfl rfl (fun _ => rfl) rfl rfl rfl ?_
        obtain ⟨v41, h42, hr⟩ := bind_some hr
        refine wa tk h42 rfl rfl rfl rfl (fun _ => rfl) rfl rfl ?_
        refine rn tk 7 rfl ?_
        exact jn ((s15.2.1, s15.2.2.1, v41)) hr rfl rfl
       ·
        refine rn tk 5 rfl ?_
        obtain ⟨v43, h44, hr⟩ := bind_some hr
        refine cl (slices_Contains_string_string_run _ _ _ h44) rfl rfl ?_
        refine rn tk 3 rfl ?_
        refine ac 56 hr rfl (fun c45 hr => ?_) (fun c45 hr => ?_)
        ·
         refine rn tk 5 rfl ?_
         refine wz cS ([v22.Address] : List Str) tk rfl rfl (fun _ => rfl) rfl rfl rfl ?_
         obtain ⟨v46, h47, hr⟩ := bind_some hr
         refine wa tk h47 rfl rfl rfl rfl (fun _ => rfl) rfl rfl ?_
         refine rn tk 7 rfl ?_
         exact jn ((v46, s15.2.2.1, s15.2.2.2)) hr rfl rfl
        ·
         refine rn tk 4 rfl ?_
         obtain ⟨v48, h49, hr⟩ := bind_some hr
         refine wi tk h49 rfl rfl rfl rfl rfl ?_
         refine rn tk 5 rfl ?_
         refine ac 66 hr rfl (fun c50 hr => ?_) (fun c50 hr => ?_)
         ·
          refine rn tk 4 rfl ?_
          refine wz cS ([v22.Address] : List Str) tk rfl rfl (fun _ => rfl) rfl rfl rfl ?_
          obtain ⟨v51, h52, hr⟩ := bind_some hr
          refine wa tk h52 rfl rfl rfl rfl (fun _ => rfl) rfl rfl ?_
          refine rn tk 3 rfl ?_
          exact jn v51 hr rfl rfl
         ·
          refine rn tk 2 rfl ?_
          exact jn s15.2.2.2 hr rfl rfl
      ·
       intro j26 hr
       unfold forward_Step_k3 at hr
       refine rn tk 1 rfl ?_
       obtain ⟨v27, h28, hr⟩ := bind_some hr
       obtain ⟨v29, h30, hr⟩ := bind_some hr
       refine drA 7 [(15, .ptr 15 0), (82, .agg [.s v29.Envelope.From, .l TRecipient.pc v29.Envelope.To, .s v29.Envelope.Id, .l TField.pc v29.Message.Fields, .l cU v29.Message.Body]), (81, .agg [.s a1.Envelope.From, .l TRecipient.pc a1.Envelope.To, .s a1.Envelope.Id, .l TField.pc a1.Message.Fields, .l cU a1.Message.Body]), (80, .agg [.s v27.Address, .l cS v27.To, .bo v27.Keep]), (79, .ep [pS v27.Address, pL cS v27.To, pB v27.Keep]), (78, .i v24), (77, .l TForward.pc a0)] mixed (by kernel_rfl) rfl rfl (pqA tk rfl (.plain rfl) (pqA tk rfl (.plain rfl) (.run (.plain rfl) (opG_q (ev_idx (f := TForward.pc) rfl rfl ty_s_api_Forward ty_api_Forward rfl h28)) (pqA tk rfl (.plain rfl) (pqA tk rfl (.plain rfl) (.run (.plain rfl) (opG_call (forward_on_run v27 a1 v29 h30) rfl) (pnA 15 tk rfl rfl rfl (.plain rfl) .nil))))))) rfl rfl rfl ?_
       refine rn tk 8 rfl ?_
       obtain ⟨v31, h32, hr⟩ := bind_some hr
       refine cl (message_Validate_run _ _ h32) rfl rfl ?_
       refine rn tk 7 rfl ?_
       obtain ⟨v33, h34, hr⟩ := bind_some hr
       refine cl (basic_Failed_run _ _ h34) rfl rfl ?_
       refine rn tk 2 rfl ?_
       refine ac 87 hr rfl (fun c35 hr => ?_) (fun c35 hr => ?_)
       ·
        refine rn tk 4 rfl ?_
        obtain ⟨v36, h37, hr⟩ := bind_some hr
        refine cl (basic_Fault_run _ _ _ h37) rfl rfl ?_
        refine rn tk 1 rfl ?_
        refine awpl_adopt 2004 (d := 4) 9 1 rfl rfl rfl (hO ?_)
        refine rn tk 1 rfl ?_
        refine awpl_adopt 2005 (d := 5) 43 5 rfl rfl rfl (hO ?_)
        refine rn tk 1 rfl ?_
        refine awpl_adopt 2006 (d := 6) 9 1 rfl rfl rfl (hO ?_)
        refine rn tk 3 rfl ?_
        refine awp_pub (d := 4) (F := cS) (l := (([] : List Str))) rfl rfl (hC ?_)
        refine awp_pub (d := 5) (F := TMail.pc) (l := (([] : List TMail))) rfl rfl (hC ?_)
        refine awp_pub (d := 6) (F := cS) (l := (([] : List Str))) rfl rfl (hC ?_)
        refine rn tk 4 rfl ?_
        cases hr
        exact ato rfl rfl rfl rfl
       ·
        refine rn tk 5 rfl ?_
        refine wz TMail.pc ([v29] : List TMail) tk rfl rfl (fun _ => rfl) rfl rfl rfl ?_
        obtain ⟨v38, h39, hr⟩ := bind_some hr
        refine wa tk h39 rfl rfl rfl rfl (fun _ => rfl) rfl rfl ?_
        refine rn tk 3 rfl ?_
        exact jn ((s15.2.1, v38, j26)) hr rfl rfl
     ·
      intro j21 hr
      unfold forward_Step_k2 at hr
      refine rn tk 4 rfl ?_
      cases hr
      exact atc rfl rfl
    ·
     refine rn tk 2 rfl ?_
     cases hr
     exact ato rfl rfl rfl rfl
   ·
    refine rn tk 7 rfl ?_
    obtain ⟨v53, h54, hr⟩ := bind_some hr
    refine cl (basic_None_run _ h54) rfl rfl ?_
    refine rn tk 6 rfl ?_
    refine awp_pub (d := 4) (F := cS) (l := b16.2.2) rfl rfl (hC ?_)
    refine awp_pub (d := 5) (F := TMail.pc) (l := b16.2.1) rfl rfl (hC ?_)
    refine awp_pub (d := 6) (F := cS) (l := b16.1) rfl rfl (hC ?_)
    refine rn tk 1 rfl ?_
    cases hr
    exact kr tk (.inr rfl) rfl rfl
   ·
    refine rn tk 2 rfl ?_
    cases hr
    exact kr tk (.inr rfl) rfl rfl
theorem forward_Tree_run (a0 : List TForward) (a1 : Str) (r : (List Str) × TFault) (hr : forward_Tree a0 a1 = some r) : Run Tryz.prog 6 [.l TForward.pc a0, .s a1] (.tup [.l cS r.1, .agg [.i r.2.Code, .i r.2.Index]]) := by
 unfold forward_Tree at hr
 refine rf (fn := Tryz.f6) ⟨Tryz.func6, rfl, by kernel_rfl⟩ rfl (fun _ => rfl) fun g0 hg => ?_
 refine rn tk 11 rfl ?_
 obtain ⟨v1, h2, hr⟩ := bind_some hr
 refine cl (forward_Validate_run _ _ h2) rfl rfl ?_
 refine rn tk 7 rfl ?_
 obtain ⟨v3, h4, hr⟩ := bind_some hr
 refine cl (basic_Failed_run _ _ h4) rfl rfl ?_
 refine rn tk 2 rfl ?_
 refine ac 13 hr rfl (fun c5 hr => ?_) (fun c5 hr => ?_)
 ·
  refine rn tk 1 rfl ?_
  refine dr 2 [(4, .pv (.sl (some true) [])), (14, .agg [.i v1.Code, .i v1.Index])] mixed (by kernel_rfl) rfl rfl (pq tk rfl (.plain rfl) (pq tk rfl (.plain rfl) .nil)) rfl ?_
  refine rn tk 5 rfl ?_
  cases hr
  exact kr tk (.inr rfl) rfl rfl
 ·
  refine rn tk 6 rfl ?_
  obtain ⟨v6, h7, hr⟩ := bind_some hr
  refine cl (envelope_Address_run _ _ h7) rfl rfl ?_
  refine rn tk 3 rfl ?_
  refine ac 17 hr rfl (fun c8 hr => ?_) (fun c8 hr => ?_)
  ·
   refine rn tk 2 rfl ?_
   obtain ⟨v9, h10, hr⟩ := bind_some hr
   refine cl (basic_Fault_run _ _ _ h10) rfl rfl ?_
   refine rn tk 6 rfl ?_
   cases hr
   exact kr tk (.inr rfl) rfl rfl
  ·
   refine rn tk 5 rfl ?_
   refine awpl_adoptC 1007 (o := 7) (j := 0) 9 1 rfl rfl rfl rfl (hO ?_)
   refine rn tk 6 rfl ?_
   obtain ⟨v11, h12, hr⟩ := bind_some hr
   refine cl (forward_aliases_run _ _ h12) rfl rfl ?_
   refine rn tk 1 rfl ?_
   refine wz cS ([a1] : List Str) tk rfl rfl (fun _ => rfl) rfl rfl rfl ?_
   refine il (fn := Tryz.f21) (args := [.l TAlias.pc v11, .l cS (([a1] : List Str))]) 1400000 1499999 [(2, .ptr 2 0), (5, .ptr 5 0), (7, .ptr 7 0)] rfl ⟨Tryz.func21, rfl, by kernel_rfl⟩ rfl rfl rfl fun T14 ds14 => ?_
   refine rn tk 2 rfl ?_
   refine wo (opTo_box (k := 2) 1002 rfl rfl rfl rfl rfl) rfl ?_
   refine rn tk 11 rfl ?_
   refine ie tk [.fn (.func 47) [] [.ptr 1002 0, .ptr 3 0]] [(2, .ptr 2 0), (5, .ptr 5 0), (7, .ptr 7 0)] [(3, .cells [.l cS (([a1] : List Str))]), (1002, .cells [.l TAlias.pc v11]), (1007, .row 9 false 1 (List.map cS (([] : List Str)))), (7, .cells [.hs 1007 0]), (6, .cells [.i v1.Code, .i v1.Index]), (5, .cells [.i 0, .i 0]), (2, .cells [.l TForward.pc a0])] (.inr rfl) rfl rfl rfl rfl (hO ?_)
   refine rn tk 3 rfl ?_
   refine awp_rangef (fn0 := Tryz.f47) 1500000 1599998 1599999 [(2, .ptr 2 0), (5, .ptr 5 0), (7, .ptr 7 0), (23, .fn (.func 47) [] [.ptr 1002 0, .ptr 3 0])] rfl rfl rfl ⟨Tryz.func47, rfl, by kernel_rfl⟩ rfl rfl rfl rfl rfl (.cons rfl (.cons rfl (.cons rfl (.cons rfl .nil)))) fun T15 b15 L15 ds15 hT15 hLs15 hLp15 hLt15 hLq15 hLa15 hLb15 => hB mono_itr ?_
   refine rn tk 3 rfl ?_
   refine il (fn := Tryz.f48) (args := [.l TAlias.pc v11]) 1600000 1699999 [(0, .fn (.yield b15) [] []), (2, .ptr 3 0)] rfl ⟨Tryz.func48, rfl, by kernel_rfl⟩ rfl rfl rfl fun T16 ds16 => ?_
   refine rn tk 7 rfl ?_
   refine wo (opTo_makeMap (k0 := 6) 1006 false rfl rfl rfl) rfl ?_
   refine rn tk 7 rfl ?_
   refine wn tk rfl rfl rfl ?_
   refine rn tk 4 rfl ?_
   refine al1 hr (fun s13 => [(3, .mp 1006), (7, .l TAlias.pc v11), (8, .i ((v11.length : Int))), (9, .i s13.1)]) (fun s13 => [(1006, .mapo false (menc keyS (cL cS) s13.2)), (1699999, .sus g0.w.heap.size ds16), (1600000, .hold (.fn (.yield b15) [] []) (T16.getD 0 undef)), (1600002, .hold (.ptr 3 0) (T16.getD 2 undef)), (1599999, .sus g0.w.heap.size ds15), (1599998, .lp b15 L15), (1500002, .hold (.ptr 2 0) (T15.getD 2 undef)), (1500005, .hold (.ptr 5 0) (T15.getD 5 undef)), (1500007, .hold (.ptr 7 0) (T15.getD 7 undef)), (1500023, .hold (.fn (.func 47) [] [.ptr 1002 0, .ptr 3 0]) (T15.getD 23 undef)), (3, .cells [.l cS (([a1] : List Str))]), (1002, .cells [.l TAlias.pc v11]), (1007, .row 9 false 1 (List.map cS (([] : List Str)))), (7, .cells [.hs 1007 0]), (5, .cells [.i 0, .i 0]), (2, .cells [.l TForward.pc a0])]) (.exit 0) (fun b14 => [(3, .mp 1006)]) (fun b14 => [(1006, .mapo false (menc keyS (cL cS) b14)), (1699999, .sus g0.w.heap.size ds16), (1600000, .hold (.fn (.yield b15) [] []) (T16.getD 0 undef)), (1600002, .hold (.ptr 3 0) (T16.getD 2 undef)), (1599999, .sus g0.w.heap.size ds15), (1599998, .lp b15 L15), (1500002, .hold (.ptr 2 0) (T15.getD 2 undef)), (1500005, .hold (.ptr 5 0) (T15.getD 5 undef)), (1500007, .hold (.ptr 7 0) (T15.getD 7 undef)), (1500023, .hold (.fn (.func 47) [] [.ptr 1002 0, .ptr 3 0]) (T15.getD 23 undef)), (3, .cells [.l cS (([a1] : List Str))]), (1002, .cells [.l TAlias.pc v11]), (1007, .row 9 false 1 (List.map cS (([] : List Str)))), (7, .cells [.hs 1007 0]), (5, .cells [.i 0, .i 0]), (2, .cells [.l TForward.pc a0])]) rfl rfl (fun s13 x15 hr => ?_) (fun b14 hr => ?_)
   ·
    unfold forward_Tree_l1 at hr
    refine rn tk 6 rfl ?_
    refine ac 10 hr rfl (fun c16 hr => ?_) (fun c16 hr => ?_)
    ·
     refine rn tk 6 rfl ?_
     obtain ⟨v17, h18, hr⟩ := bind_some hr
     refine wi tk h18 rfl rfl rfl rfl rfl ?_
     refine rn tk 1 rfl ?_
     refine wo (opTo_alloc (k := 5) 1005 rfl ty_api_Alias (.inr ⟨rfl, rfl⟩) rfl rfl rfl) rfl ?_
     refine rn tk 9 rfl ?_
     refine wo (opTo_mapUpdate (KK := keyS) (F := (cL cS)) (es := s13.2) (k := v17.Address) (v := v17.To) rfl rfl rfl rfl rfl ty_map_string_s_string.u ty_string.u) rfl ?_
     refine rn tk 7 rfl ?_
     cases hr
     exact atc rfl rfl
    ·
     refine rn tk 2 rfl ?_
     cases hr
     exact ato rfl rfl rfl rfl
   ·
    refine rn tk 9 rfl ?_
    refine ie tk [.mp 1006] [(0, .fn (.yield b15) [] []), (2, .ptr 3 0)] [(1006, .mapo false (menc keyS (cL cS) b14)), (1599999, .sus g0.w.heap.size ds15), (1599998, .lp b15 L15), (1500002, .hold (.ptr 2 0) (T15.getD 2 undef)), (1500005, .hold (.ptr 5 0) (T15.getD 5 undef)), (1500007, .hold (.ptr 7 0) (T15.getD 7 undef)), (1500023, .hold (.fn (.func 47) [] [.ptr 1002 0, .ptr 3 0]) (T15.getD 23 undef)), (3, .cells [.l cS (([a1] : List Str))]), (1002, .cells [.l TAlias.pc v11]), (1007, .row 9 false 1 (List.map cS (([] : List Str)))), (7, .cells [.hs 1007 0]), (5, .cells [.i 0, .i 0]), (2, .cells [.l TForward.pc a0])] (.inr rfl) rfl rfl rfl rfl (hO ?_)
    refine rn tk 5 rfl ?_
    refine wo (opTo_makeMap (k0 := 11) 1011 false rfl rfl rfl) rfl ?_
    refine wo (opTo_alloc (k := 5) 1005 rfl ty_map_string_bool (.inl rfl) rfl rfl rfl) rfl ?_
    refine rn tk 6 rfl ?_
    refine awpl_adoptC 2006 (o := 6) (j := 0) 9 1 rfl rfl rfl rfl (hO ?_)
    refine rn tk 12 rfl ?_
    refine il (fn := Tryz.f49) (args := [.l cS (([a1] : List Str)), .ptr 1005 0, .ptr 6 0]) 1700000 1799999 [(0, .fn (.yield b15) [] []), (4, .mp 1006), (6, .ptr 6 0), (7, .fn (.func 49) [] [.ptr 1005 0, .ptr 6 0])] rfl ⟨Tryz.func49, rfl, by kernel_rfl⟩ rfl rfl rfl fun T17 ds17 => ?_
    refine rn tk 3 rfl ?_
    refine wn tk rfl rfl rfl ?_
    refine rn tk 4 rfl ?_
    refine al1 hr (fun s19 => [(1, .ptr 1005 0), (2, .ptr 6 0), (6, .l cS (([a1] : List Str))), (7, .i (((([a1] : List Str)).length : Int))), (8, .i s19.1)]) (fun s19 => [(1799999, .sus g0.w.heap.size ds17), (1700000, .hold (.fn (.yield b15) [] []) (T17.getD 0 undef)), (1700004, .hold (.mp 1006) (T17.getD 4 undef)), (1700006, .hold (.ptr 6 0) (T17.getD 6 undef)), (1700007, .hold (.fn (.func 49) [] [.ptr 1005 0, .ptr 6 0]) (T17.getD 7 undef)), (2006, .row 9 false 1 (List.map cS s19.2.1)), (6, .cells [.hs 2006 0]), (1005, .cells [.mp 1011]), (1011, .mapo false (menc keyS cB s19.2.2)), (1006, .mapo false (menc keyS (cL cS) b14)), (1599999, .sus g0.w.heap.size ds15), (1599998, .lp b15 L15), (1500002, .hold (.ptr 2 0) (T15.getD 2 undef)), (1500005, .hold (.ptr 5 0) (T15.getD 5 undef)), (1500007, .hold (.ptr 7 0) (T15.getD 7 undef)), (1500023, .hold (.fn (.func 47) [] [.ptr 1002 0, .ptr 3 0]) (T15.getD 23 undef)), (3, .cells [.l cS (([a1] : List Str))]), (1002, .cells [.l TAlias.pc v11]), (1007, .row 9 false 1 (List.map cS (([] : List Str)))), (7, .cells [.hs 1007 0]), (5, .cells [.i 0, .i 0]), (2, .cells [.l TForward.pc a0])]) (.exit 0) (fun b20 => []) (fun b20 => [(1799999, .sus g0.w.heap.size ds17), (1700000, .hold (.fn (.yield b15) [] []) (T17.getD 0 undef)), (1700004, .hold (.mp 1006) (T17.getD 4 undef)), (1700006, .hold (.ptr 6 0) (T17.getD 6 undef)), (1700007, .hold (.fn (.func 49) [] [.ptr 1005 0, .ptr 6 0]) (T17.getD 7 undef)), (2006, .row 9 false 1 (List.map cS b20.1)), (6, .cells [.hs 2006 0]), (1005, .cells [.mp 1011]), (1011, .mapo false (menc keyS cB b20.2)), (1006, .mapo false (menc keyS (cL cS) b14)), (1599999, .sus g0.w.heap.size ds15), (1599998, .lp b15 L15), (1500002, .hold (.ptr 2 0) (T15.getD 2 undef)), (1500005, .hold (.ptr 5 0) (T15.getD 5 undef)), (1500007, .hold (.ptr 7 0) (T15.getD 7 undef)), (1500023, .hold (.fn (.func 47) [] [.ptr 1002 0, .ptr 3 0]) (T15.getD 23 undef)), (3, .cells [.l cS (([a1] : List Str))]), (1002, .cells [.l TAlias.pc v11]), (1007, .row 9 false 1 (List.map cS (([] : List Str)))), (7, .cells [.hs 1007 0]), (5, .cells [.i 0, .i 0]), (2, .cells [.l TForward.pc a0])]) rfl rfl (fun s19 x21 hr => ?_) (fun b20 hr => ?_)
    ·
     unfold forward_Tree_l2 at hr
     refine rn tk 6 rfl ?_
     refine ac 9 hr rfl (fun c22 hr => ?_) (fun c22 hr => ?_)
     ·
      refine rn tk 2 rfl ?_
      refine jb hr (fun j23 => [(1, .ptr 1005 0), (2, .ptr 6 0), (6, .l cS (([a1] : List Str))), (7, .i (((([a1] : List Str)).length : Int))), (8, .i s19.1)]) (fun j23 => [(1799999, .sus g0.w.heap.size ds17), (1700000, .hold (.fn (.yield b15) [] []) (T17.getD 0 undef)), (1700004, .hold (.mp 1006) (T17.getD 4 undef)), (1700006, .hold (.ptr 6 0) (T17.getD 6 undef)), (1700007, .hold (.fn (.func 49) [] [.ptr 1005 0, .ptr 6 0]) (T17.getD 7 undef)), (2006, .row 9 false 1 (List.map cS j23.1)), (6, .cells [.hs 2006 0]), (1005, .cells [.mp 1011]), (1011, .mapo false (menc keyS cB j23.2)), (1006, .mapo false (menc keyS (cL cS) b14)), (1599999, .sus g0.w.heap.size ds15), (1599998, .lp b15 L15), (1500002, .hold (.ptr 2 0) (T15.getD 2 undef)), (1500005, .hold (.ptr 5 0) (T15.getD 5 undef)), (1500007, .hold (.ptr 7 0) (T15.getD 7 undef)), (1500023, .hold (.fn (.func 47) [] [.ptr 1002 0, .ptr 3 0]) (T15.getD 23 undef)), (3, .cells [.l cS (([a1] : List Str))]), (1002, .cells [.l TAlias.pc v11]), (1007, .row 9 false 1 (List.map cS (([] : List Str)))), (7, .cells [.hs 1007 0]), (5, .cells [.i 0, .i 0]), (2, .cells [.l TForward.pc a0])]) (fun j23 hr => ?_) (fun j23 hr => ?_)
      ·
       refine rn tk 3 rfl ?_
       obtain ⟨v24, h25, hr⟩ := bind_some hr
       refine wi tk h25 rfl rfl rfl rfl rfl ?_
       refine rn tk 8 rfl ?_
       refine wq (ev_lookup (KK := keyS) (F := cB) (es := s19.2.2) (k := v24) (z := false) rfl rfl rfl ty_map_string_bool.u ty_string.u ty_bool rfl) rfl rfl rfl ?_
       refine rn tk 3 rfl ?_
       refine ac 15 hr rfl (fun c26 hr => ?_) (fun c26 hr => ?_)
       ·
        refine rn tk 4 rfl ?_
        refine wo (opTo_mapUpdate (KK := keyS) (F := cB) (es := s19.2.2) (k := v24) (v := true) rfl rfl rfl rfl rfl ty_map_string_bool.u ty_string.u) rfl ?_
        refine rn tk 5 rfl ?_
        refine wz cS ([v24] : List Str) tk rfl rfl (fun _ => rfl) rfl rfl rfl ?_
        obtain ⟨v27, h28, hr⟩ := bind_some hr
        refine wa tk h28 rfl rfl rfl rfl (fun _ => rfl) rfl rfl ?_
        refine rn tk 3 rfl ?_
        cases hr
        exact jn _ rfl rfl rfl
       ·
        refine rn tk 2 rfl ?_
        cases hr
        exact jn _ rfl rfl rfl
      ·
       refine rn tk 4 rfl ?_
       cases hr
       exact atc rfl rfl
     ·
      refine rn tk 2 rfl ?_
      cases hr
      exact ato rfl rfl rfl rfl
    ·
     refine rn tk 1 rfl ?_
     refine ie tk [] [(0, .fn (.yield b15) [] []), (4, .mp 1006), (6, .ptr 6 0), (7, .fn (.func 49) [] [.ptr 1005 0, .ptr 6 0])] [(2006, .row 9 false 1 (List.map cS b20.1)), (6, .cells [.hs 2006 0]), (1005, .cells [.mp 1011]), (1011, .mapo false (menc keyS cB b20.2)), (1006, .mapo false (menc keyS (cL cS) b14)), (1599999, .sus g0.w.heap.size ds15), (1599998, .lp b15 L15), (1500002, .hold (.ptr 2 0) (T15.getD 2 undef)), (1500005, .hold (.ptr 5 0) (T15.getD 5 undef)), (1500007, .hold (.ptr 7 0) (T15.getD 7 undef)), (1500023, .hold (.fn (.func 47) [] [.ptr 1002 0, .ptr 3 0]) (T15.getD 23 undef)), (3, .cells [.l cS (([a1] : List Str))]), (1002, .cells [.l TAlias.pc v11]), (1007, .row 9 false 1 (List.map cS (([] : List Str)))), (7, .cells [.hs 1007 0]), (5, .cells [.i 0, .i 0]), (2, .cells [.l TForward.pc a0])] (.inl rfl) rfl rfl rfl rfl (hO ?_)
     refine rn tk 3 rfl ?_
     refine al1 hr (fun s29 => [(0, .fn (.yield b15) [] []), (4, .mp 1006), (6, .ptr 6 0), (7, .fn (.func 49) [] [.ptr 1005 0, .ptr 6 0])]) (fun s29 => [(2006, .row 9 false 1 (List.map cS s29.1)), (6, .cells [.hs 2006 0]), (1005, .cells [.mp 1011]), (1011, .mapo false (menc keyS cB s29.2.1)), (1006, .mapo false (menc keyS (cL cS) b14)), (1599999, .sus g0.w.heap.size ds15), (1599998, .lp b15 L15), (1500002, .hold (.ptr 2 0) (T15.getD 2 undef)), (1500005, .hold (.ptr 5 0) (T15.getD 5 undef)), (1500007, .hold (.ptr 7 0) (T15.getD 7 undef)), (1500023, .hold (.fn (.func 47) [] [.ptr 1002 0, .ptr 3 0]) (T15.getD 23 undef)), (3, .cells [.l cS (([a1] : List Str))]), (1002, .cells [.l TAlias.pc v11]), (1007, .row 9 false 1 (List.map cS s29.2.2)), (7, .cells [.hs 1007 0]), (5, .cells [.i 0, .i 0]), (2, .cells [.l TForward.pc a0])]) (.exit 0) (fun b30 => []) (fun b30 => [(1599999, .sus g0.w.heap.size ds15), (1599998, .lp b15 L15), (1500002, .hold (.ptr 2 0) (T15.getD 2 undef)), (1500005, .hold (.ptr 5 0) (T15.getD 5 undef)), (1500007, .hold (.ptr 7 0) (T15.getD 7 undef)), (1500023, .hold (.fn (.func 47) [] [.ptr 1002 0, .ptr 3 0]) (T15.getD 23 undef)), (3, .cells [.l cS (([a1] : List Str))]), (1002, .cells [.l TAlias.pc v11]), (1007, .row 9 false 1 (List.map cS b30)), (7, .cells [.hs 1007 0]), (5, .cells [.i 0, .i 0]), (2, .cells [.l TForward.pc a0])]) rfl rfl (fun s29 x31 hr => ?_) (fun b30 hr => ?_)
     ·
      unfold forward_Tree_l3 at hr
      refine rn tk 4 rfl ?_
      refine wnh tk rfl rfl rfl rfl ?_
      refine rn tk 3 rfl ?_
      refine ac 18 hr rfl (fun c32 hr => ?_) (fun c32 hr => ?_)
      ·
       refine rn tk 6 rfl ?_
       refine awpl_pub (d := 19) (F := cS) (l := s29.1) rfl rfl (hO ?_)
       obtain ⟨v33, h34, hr⟩ := bind_some hr
       refine wi tk h34 rfl rfl rfl rfl rfl ?_
       refine rn tk 7 rfl ?_
       obtain ⟨v35, h36, hr⟩ := bind_some hr
       refine wo (opTo_hcutL (k := 23) (F := cS) (l := s29.1) rfl rfl rfl rfl ty_s_string ty_string h36) rfl ?_
       refine rn tk 8 rfl ?_
       refine awpl_yieldf (ps := [24]) (args := [.s v33]) 1500000 2400000 1599998 2499999 [(2, .ptr 2 0), (5, .ptr 5 0), (7, .ptr 7 0), (23, .fn (.func 47) [] [.ptr 1002 0, .ptr 3 0])] [(0, .fn (.yield b15) [] []), (4, .mp 1006), (6, .ptr 6 0), (7, .fn (.func 49) [] [.ptr 1005 0, .ptr 6 0]), (8, .s v33)] (wanted_plain rfl) rfl rfl hLs15 hLp15 hLt15 hLq15 hLa15 hLb15 hT15 rfl rfl rfl rfl (.cons rfl (.cons rfl (.cons rfl (.cons rfl (.cons rfl .nil))))) (.cons rfl (.cons rfl (.cons rfl (.cons rfl .nil)))) fun T24 ds24 hT24 => hB mono_asg ?_
       refine rn tk 3 rfl ?_
       refine asgK frLe_refl stoLe_refl rfl (hB mono_rnd ?_)
       refine rn tk 5 rfl ?_
       obtain ⟨v37, h38, hr⟩ := bind_some hr
       refine cl (forward_find_run _ _ _ h38) rfl rfl ?_
       refine rn tk 3 rfl ?_
       refine jb hr (fun j39 => [(7, .ptr 7 0), (8, .s v33), (36, .bo j39)]) (fun j39 => [(2499999, .sus g0.w.heap.size ds24), (2400000, .hold (.fn (.yield b15) [] []) (T24.getD 0 undef)), (2400004, .hold (.mp 1006) (T24.getD 4 undef)), (2400006, .hold (.ptr 6 0) (T24.getD 6 undef)), (2400007, .hold (.fn (.func 49) [] [.ptr 1005 0, .ptr 6 0]) (T24.getD 7 undef)), (2400008, .hold (.s v33) (T24.getD 8 undef)), (2006, .row 9 false 1 (List.map cS v35)), (6, .cells [.hs 2006 0]), (1005, .cells [.mp 1011]), (1011, .mapo false (menc keyS cB s29.2.1)), (1006, .mapo false (menc keyS (cL cS) b14)), (1599999, .sus g0.w.heap.size ds15), (1599998, .lp b15 ((busy L15))), (1500002, .hold (.ptr 2 0) (T15.getD 2 undef)), (1500005, .hold (.ptr 5 0) (T15.getD 5 undef)), (1500007, .hold (.ptr 7 0) (T15.getD 7 undef)), (1500023, .hold (.fn (.func 47) [] [.ptr 1002 0, .ptr 3 0]) (T15.getD 23 undef)), (3, .cells [.l cS (([a1] : List Str))]), (1002, .cells [.l TAlias.pc v11]), (1007, .row 9 false 1 (List.map cS s29.2.2)), (7, .cells [.hs 1007 0]), (5, .cells [.i 0, .i 0]), (2, .cells [.l TForward.pc a0])]) (fun j39 hr => ?_) (fun j39 hr => ?_)
       ·
        refine rn tk 4 rfl ?_
        refine bs 30 hr rfl (fun c40 hr => ?_) (fun c40 hr => ?_)
        ·
         refine rn tk 7 rfl ?_
         cases hr
         exact jn _ rfl rfl rfl
        ·
         refine rn tk 2 rfl ?_
         obtain ⟨v41, h42, hr⟩ := bind_some hr
         refine ug rfl rfl rfl ?_
         refine wi tk h42 rfl rfl rfl rfl rfl ?_
         refine rn tk 4 rfl ?_
         cases hr
         exact jn _ rfl rfl rfl
       ·
        refine ac 36 hr rfl (fun c43 hr => ?_) (fun c43 hr => ?_)
        ·
         refine rn tk 3 rfl ?_
         refine wz cS ([v33] : List Str) tk rfl rfl (fun _ => rfl) rfl rfl rfl ?_
         obtain ⟨v44, h45, hr⟩ := bind_some hr
         refine wa tk h45 rfl rfl rfl rfl (fun _ => rfl) rfl rfl ?_
         refine rn tk 3 rfl ?_
         refine rndK (fr' := []) (fr'' := [(0, .fn (.yield b15) [] []), (4, .mp 1006), (6, .ptr 6 0), (7, .fn (.func 49) [] [.ptr 1005 0, .ptr 6 0]), (8, .s v33)]) (σ'' := [(2006, .row 9 false 1 (List.map cS v35)), (6, .cells [.hs 2006 0]), (1005, .cells [.mp 1011]), (1011, .mapo false (menc keyS cB s29.2.1)), (1006, .mapo false (menc keyS (cL cS) b14)), (1599999, .sus g0.w.heap.size ds15), (1599998, .lp b15 L15), (1500002, .hold (.ptr 2 0) (T15.getD 2 undef)), (1500005, .hold (.ptr 5 0) (T15.getD 5 undef)), (1500007, .hold (.ptr 7 0) (T15.getD 7 undef)), (1500023, .hold (.fn (.func 47) [] [.ptr 1002 0, .ptr 3 0]) (T15.getD 23 undef)), (3, .cells [.l cS (([a1] : List Str))]), (1002, .cells [.l TAlias.pc v11]), (1007, .row 9 false 1 (List.map cS v44)), (7, .cells [.hs 1007 0]), (5, .cells [.i 0, .i 0]), (2, .cells [.l TForward.pc a0])]) .off stoLe_refl rfl (.cons rfl (.cons rfl (.cons rfl (.cons rfl (.cons rfl .nil))))) rfl (stoLe_cons rfl (stoLe_cons rfl (stoLe_cons rfl (stoLe_cons rfl (stoLe_cons rfl (stoLe_cons rfl (stoLe_cons rfl (stoLe_cons rfl (stoLe_cons rfl (stoLe_cons rfl (stoLe_cons rfl (stoLe_cons rfl (stoLe_cons rfl (stoLe_cons rfl (stoLe_cons rfl (stoLe_cons rfl (stoLe_cons rfl stoLe_nil))))))))))))))))) (hO ?_)
         refine rn tk 10 rfl ?_
         refine wq (ev_lookup (KK := keyS) (F := (cL cS)) (es := b14) (k := v33) (z := (([] : List Str))) rfl rfl rfl ty_map_string_s_string.u ty_string.u ty_s_string rfl) rfl rfl rfl ?_
         refine il (fn := Tryz.f49) (args := [.l cS (((mget b14 v33).getD (([] : List Str)))), .ptr 1005 0, .ptr 6 0]) 2500000 2599999 [(0, .fn (.yield b15) [] []), (4, .mp 1006), (6, .ptr 6 0), (7, .fn (.func 49) [] [.ptr 1005 0, .ptr 6 0])] rfl ⟨Tryz.func49, rfl, by kernel_rfl⟩ rfl rfl rfl fun T25 ds25 => ?_
         refine rn tk 3 rfl ?_
         refine wn tk rfl rfl rfl ?_
         refine rn tk 4 rfl ?_
         refine al1 hr (fun s46 => [(1, .ptr 1005 0), (2, .ptr 6 0), (6, .l cS (((mget b14 v33).getD (([] : List Str))))), (7, .i (((((mget b14 v33).getD (([] : List Str)))).length : Int))), (8, .i s46.1)]) (fun s46 => [(2599999, .sus g0.w.heap.size ds25), (2500000, .hold (.fn (.yield b15) [] []) (T25.getD 0 undef)), (2500004, .hold (.mp 1006) (T25.getD 4 undef)), (2500006, .hold (.ptr 6 0) (T25.getD 6 undef)), (2500007, .hold (.fn (.func 49) [] [.ptr 1005 0, .ptr 6 0]) (T25.getD 7 undef)), (2006, .row 9 false 1 (List.map cS s46.2.1)), (6, .cells [.hs 2006 0]), (1005, .cells [.mp 1011]), (1011, .mapo false (menc keyS cB s46.2.2)), (1006, .mapo false (menc keyS (cL cS) b14)), (1599999, .sus g0.w.heap.size ds15), (1599998, .lp b15 L15), (1500002, .hold (.ptr 2 0) (T15.getD 2 undef)), (1500005, .hold (.ptr 5 0) (T15.getD 5 undef)), (1500007, .hold (.ptr 7 0) (T15.getD 7 undef)), (1500023, .hold (.fn (.func 47) [] [.ptr 1002 0, .ptr 3 0]) (T15.getD 23 undef)), (3, .cells [.l cS (([a1] : List Str))]), (1002, .cells [.l TAlias.pc v11]), (1007, .row 9 false 1 (List.map cS v44)), (7, .cells [.hs 1007 0]), (5, .cells [.i 0, .i 0]), (2, .cells [.l TForward.pc a0])]) (.exit 0) (fun b47 => []) (fun b47 => [(2599999, .sus g0.w.heap.size ds25), (2500000, .hold (.fn (.yield b15) [] []) (T25.getD 0 undef)), (2500004, .hold (.mp 1006) (T25.getD 4 undef)), (2500006, .hold (.ptr 6 0) (T25.getD 6 undef)), (2500007, .hold (.fn (.func 49) [] [.ptr 1005 0, .ptr 6 0]) (T25.getD 7 undef)), (2006, .row 9 false 1 (List.map cS b47.1)), (6, .cells [.hs 2006 0]), (1005, .cells [.mp 1011]), (1011, .mapo false (menc keyS cB b47.2)), (1006, .mapo false (menc keyS (cL cS) b14)), (1599999, .sus g0.w.heap.size ds15), (1599998, .lp b15 L15), (1500002, .hold (.ptr 2 0) (T15.getD 2 undef)), (1500005, .hold (.ptr 5 0) (T15.getD 5 undef)), (1500007, .hold (.ptr 7 0) (T15.getD 7 undef)), (1500023, .hold (.fn (.func 47) [] [.ptr 1002 0, .ptr 3 0]) (T15.getD 23 undef)), (3, .cells [.l cS (([a1] : List Str))]), (1002, .cells [.l TAlias.pc v11]), (1007, .row 9 false 1 (List.map cS v44)), (7, .cells [.hs 1007 0]), (5, .cells [.i 0, .i 0]), (2, .cells [.l TForward.pc a0])]) rfl rfl (fun s46 x48 hr => ?_) (fun b47 hr => ?_)
         ·
          unfold forward_Tree_l4 at hr
          refine rn tk 6 rfl ?_
          refine ac 9 hr rfl (fun c49 hr => ?_) (fun c49 hr => ?_)
          ·
           refine rn tk 2 rfl ?_
           refine jb hr (fun j50 => [(1, .ptr 1005 0), (2, .ptr 6 0), (6, .l cS (((mget b14 v33).getD (([] : List Str))))), (7, .i (((((mget b14 v33).getD (([] : List Str)))).length : Int))), (8, .i s46.1)]) (fun j50 => [(2599999, .sus g0.w.heap.size ds25), (2500000, .hold (.fn (.yield b15) [] []) (T25.getD 0 undef)), (2500004, .hold (.mp 1006) (T25.getD 4 undef)), (2500006, .hold (.ptr 6 0) (T25.getD 6 undef)), (2500007, .hold (.fn (.func 49) [] [.ptr 1005 0, .ptr 6 0]) (T25.getD 7 undef)), (2006, .row 9 false 1 (List.map cS j50.1)), (6, .cells [.hs 2006 0]), (1005, .cells [.mp 1011]), (1011, .mapo false (menc keyS cB j50.2)), (1006, .mapo false (menc keyS (cL cS) b14)), (1599999, .sus g0.w.heap.size ds15), (1599998, .lp b15 L15), (1500002, .hold (.ptr 2 0) (T15.getD 2 undef)), (1500005, .hold (.ptr 5 0) (T15.getD 5 undef)), (1500007, .hold (.ptr 7 0) (T15.getD 7 undef)), (1500023, .hold (.fn (.func 47) [] [.ptr 1002 0, .ptr 3 0]) (T15.getD 23 undef)), (3, .cells [.l cS (([a1] : List Str))]), (1002, .cells [.l TAlias.pc v11]), (1007, .row 9 false 1 (List.map cS v44)), (7, .cells [.hs 1007 0]), (5, .cells [.i 0, .i 0]), (2, .cells [.l TForward.pc a0])]) (fun j50 hr => ?_) (fun j50 hr => ?_)
           ·
            refine rn tk 3 rfl ?_
            obtain ⟨v51, h52, hr⟩ := bind_some hr
            refine wi tk h52 rfl rfl rfl rfl rfl ?_
            refine rn tk 8 rfl ?_
            refine wq (ev_lookup (KK := keyS) (F := cB) (es := s46.2.2) (k := v51) (z := false) rfl rfl rfl ty_map_string_bool.u ty_string.u ty_bool rfl) rfl rfl rfl ?_
            refine rn tk 3 rfl ?_
            refine ac 15 hr rfl (fun c53 hr => ?_) (fun c53 hr => ?_)
            ·
             refine rn tk 4 rfl ?_
             refine wo (opTo_mapUpdate (KK := keyS) (F := cB) (es := s46.2.2) (k := v51) (v := true) rfl rfl rfl rfl rfl ty_map_string_bool.u ty_string.u) rfl ?_
             refine rn tk 5 rfl ?_
             refine wz cS ([v51] : List Str) tk rfl rfl (fun _ => rfl) rfl rfl rfl ?_
             obtain ⟨v54, h55, hr⟩ := bind_some hr
             refine wa tk h55 rfl rfl rfl rfl (fun _ => rfl) rfl rfl ?_
             refine rn tk 3 rfl ?_
             cases hr
             exact jn _ rfl rfl rfl
            ·
             refine rn tk 2 rfl ?_
             cases hr
             exact jn _ rfl rfl rfl
           ·
            refine rn tk 4 rfl ?_
            cases hr
            exact atc rfl rfl
          ·
           refine rn tk 2 rfl ?_
           cases hr
           exact ato rfl rfl rfl rfl
         ·
          refine rn tk 1 rfl ?_
          refine ie tk [] [(0, .fn (.yield b15) [] []), (4, .mp 1006), (6, .ptr 6 0), (7, .fn (.func 49) [] [.ptr 1005 0, .ptr 6 0])] [(2006, .row 9 false 1 (List.map cS b47.1)), (6, .cells [.hs 2006 0]), (1005, .cells [.mp 1011]), (1011, .mapo false (menc keyS cB b47.2)), (1006, .mapo false (menc keyS (cL cS) b14)), (1599999, .sus g0.w.heap.size ds15), (1599998, .lp b15 L15), (1500002, .hold (.ptr 2 0) (T15.getD 2 undef)), (1500005, .hold (.ptr 5 0) (T15.getD 5 undef)), (1500007, .hold (.ptr 7 0) (T15.getD 7 undef)), (1500023, .hold (.fn (.func 47) [] [.ptr 1002 0, .ptr 3 0]) (T15.getD 23 undef)), (3, .cells [.l cS (([a1] : List Str))]), (1002, .cells [.l TAlias.pc v11]), (1007, .row 9 false 1 (List.map cS v44)), (7, .cells [.hs 1007 0]), (5, .cells [.i 0, .i 0]), (2, .cells [.l TForward.pc a0])] (.inl rfl) rfl rfl rfl rfl (hO ?_)
          refine rn tk 2 rfl ?_
          cases hr
          exact atc rfl rfl
        ·
         refine rn tk 2 rfl ?_
         refine rndK (fr' := []) (fr'' := [(0, .fn (.yield b15) [] []), (4, .mp 1006), (6, .ptr 6 0), (7, .fn (.func 49) [] [.ptr 1005 0, .ptr 6 0]), (8, .s v33)]) (σ'' := [(2006, .row 9 false 1 (List.map cS v35)), (6, .cells [.hs 2006 0]), (1005, .cells [.mp 1011]), (1011, .mapo false (menc keyS cB s29.2.1)), (1006, .mapo false (menc keyS (cL cS) b14)), (1599999, .sus g0.w.heap.size ds15), (1599998, .lp b15 L15), (1500002, .hold (.ptr 2 0) (T15.getD 2 undef)), (1500005, .hold (.ptr 5 0) (T15.getD 5 undef)), (1500007, .hold (.ptr 7 0) (T15.getD 7 undef)), (1500023, .hold (.fn (.func 47) [] [.ptr 1002 0, .ptr 3 0]) (T15.getD 23 undef)), (3, .cells [.l cS (([a1] : List Str))]), (1002, .cells [.l TAlias.pc v11]), (1007, .row 9 false 1 (List.map cS s29.2.2)), (7, .cells [.hs 1007 0]), (5, .cells [.i 0, .i 0]), (2, .cells [.l TForward.pc a0])]) .off stoLe_refl rfl (.cons rfl (.cons rfl (.cons rfl (.cons rfl (.cons rfl .nil))))) rfl (stoLe_cons rfl (stoLe_cons rfl (stoLe_cons rfl (stoLe_cons rfl (stoLe_cons rfl (stoLe_cons rfl (stoLe_cons rfl (stoLe_cons rfl (stoLe_cons rfl (stoLe_cons rfl (stoLe_cons rfl (stoLe_cons rfl (stoLe_cons rfl (stoLe_cons rfl (stoLe_cons rfl (stoLe_cons rfl (stoLe_cons rfl stoLe_nil))))))))))))))))) (hO ?_)
         refine rn tk 10 rfl ?_
         refine wq (ev_lookup (KK := keyS) (F := (cL cS)) (es := b14) (k := v33) (z := (([] : List Str))) rfl rfl rfl ty_map_string_s_string.u ty_string.u ty_s_string rfl) rfl rfl rfl ?_
         refine il (fn := Tryz.f49) (args := [.l cS (((mget b14 v33).getD (([] : List Str)))), .ptr 1005 0, .ptr 6 0]) 2600000 2699999 [(0, .fn (.yield b15) [] []), (4, .mp 1006), (6, .ptr 6 0), (7, .fn (.func 49) [] [.ptr 1005 0, .ptr 6 0])] rfl ⟨Tryz.func49, rfl, by kernel_rfl⟩ rfl rfl rfl fun T26 ds26 => ?_
         refine rn tk 3 rfl ?_
         refine wn tk rfl rfl rfl ?_
         refine rn tk 4 rfl ?_
         refine al1 hr (fun s56 => [(1, .ptr 1005 0), (2, .ptr 6 0), (6, .l cS (((mget b14 v33).getD (([] : List Str))))), (7, .i (((((mget b14 v33).getD (([] : List Str)))).length : Int))), (8, .i s56.1)]) (fun s56 => [(2699999, .sus g0.w.heap.size ds26), (2600000, .hold (.fn (.yield b15) [] []) (T26.getD 0 undef)), (2600004, .hold (.mp 1006) (T26.getD 4 undef)), (2600006, .hold (.ptr 6 0) (T26.getD 6 undef)), (2600007, .hold (.fn (.func 49) [] [.ptr 1005 0, .ptr 6 0]) (T26.getD 7 undef)), (2006, .row 9 false 1 (List.map cS s56.2.1)), (6, .cells [.hs 2006 0]), (1005, .cells [.mp 1011]), (1011, .mapo false (menc keyS cB s56.2.2)), (1006, .mapo false (menc keyS (cL cS) b14)), (1599999, .sus g0.w.heap.size ds15), (1599998, .lp b15 L15), (1500002, .hold (.ptr 2 0) (T15.getD 2 undef)), (1500005, .hold (.ptr 5 0) (T15.getD 5 undef)), (1500007, .hold (.ptr 7 0) (T15.getD 7 undef)), (1500023, .hold (.fn (.func 47) [] [.ptr 1002 0, .ptr 3 0]) (T15.getD 23 undef)), (3, .cells [.l cS (([a1] : List Str))]), (1002, .cells [.l TAlias.pc v11]), (1007, .row 9 false 1 (List.map cS s29.2.2)), (7, .cells [.hs 1007 0]), (5, .cells [.i 0, .i 0]), (2, .cells [.l TForward.pc a0])]) (.exit 0) (fun b57 => []) (fun b57 => [(2699999, .sus g0.w.heap.size ds26), (2600000, .hold (.fn (.yield b15) [] []) (T26.getD 0 undef)), (2600004, .hold (.mp 1006) (T26.getD 4 undef)), (2600006, .hold (.ptr 6 0) (T26.getD 6 undef)), (2600007, .hold (.fn (.func 49) [] [.ptr 1005 0, .ptr 6 0]) (T26.getD 7 undef)), (2006, .row 9 false 1 (List.map cS b57.1)), (6, .cells [.hs 2006 0]), (1005, .cells [.mp 1011]), (1011, .mapo false (menc keyS cB b57.2)), (1006, .mapo false (menc keyS (cL cS) b14)), (1599999, .sus g0.w.heap.size ds15), (1599998, .lp b15 L15), (1500002, .hold (.ptr 2 0) (T15.getD 2 undef)), (1500005, .hold (.ptr 5 0) (T15.getD 5 undef)), (1500007, .hold (.ptr 7 0) (T15.getD 7 undef)), (1500023, .hold (.fn (.func 47) [] [.ptr 1002 0, .ptr 3 0]) (T15.getD 23 undef)), (3, .cells [.l cS (([a1] : List Str))]), (1002, .cells [.l TAlias.pc v11]), (1007, .row 9 false 1 (List.map cS s29.2.2)), (7, .cells [.hs 1007 0]), (5, .cells [.i 0, .i 0]), (2, .cells [.l TForward.pc a0])]) rfl rfl (fun s56 x58 hr => ?_) (fun b57 hr => ?_)
         ·
          unfold forward_Tree_l5 at hr
          refine rn tk 6 rfl ?_
          refine ac 9 hr rfl (fun c59 hr => ?_) (fun c59 hr => ?_)
          ·
           refine rn tk 2 rfl ?_
           refine jb hr (fun j60 => [(1, .ptr 1005 0), (2, .ptr 6 0), (6, .l cS (((mget b14 v33).getD (([] : List Str))))), (7, .i (((((mget b14 v33).getD (([] : List Str)))).length : Int))), (8, .i s56.1)]) (fun j60 => [(2699999, .sus g0.w.heap.size ds26), (2600000, .hold (.fn (.yield b15) [] []) (T26.getD 0 undef)), (2600004, .hold (.mp 1006) (T26.getD 4 undef)), (2600006, .hold (.ptr 6 0) (T26.getD 6 undef)), (2600007, .hold (.fn (.func 49) [] [.ptr 1005 0, .ptr 6 0]) (T26.getD 7 undef)), (2006, .row 9 false 1 (List.map cS j60.1)), (6, .cells [.hs 2006 0]), (1005, .cells [.mp 1011]), (1011, .mapo false (menc keyS cB j60.2)), (1006, .mapo false (menc keyS (cL cS) b14)), (1599999, .sus g0.w.heap.size ds15), (1599998, .lp b15 L15), (1500002, .hold (.ptr 2 0) (T15.getD 2 undef)), (1500005, .hold (.ptr 5 0) (T15.getD 5 undef)), (1500007, .hold (.ptr 7 0) (T15.getD 7 undef)), (1500023, .hold (.fn (.func 47) [] [.ptr 1002 0, .ptr 3 0]) (T15.getD 23 undef)), (3, .cells [.l cS (([a1] : List Str))]), (1002, .cells [.l TAlias.pc v11]), (1007, .row 9 false 1 (List.map cS s29.2.2)), (7, .cells [.hs 1007 0]), (5, .cells [.i 0, .i 0]), (2, .cells [.l TForward.pc a0])]) (fun j60 hr => ?_) (fun j60 hr => ?_)
           ·
            refine rn tk 3 rfl ?_
            obtain ⟨v61, h62, hr⟩ := bind_some hr
            refine wi tk h62 rfl rfl rfl rfl rfl ?_
            refine rn tk 8 rfl ?_
            refine wq (ev_lookup (KK := keyS) (F := cB) (es := s56.2.2) (k := v61) (z := false) rfl rfl rfl ty_map_string_bool.u ty_string.u ty_bool rfl) rfl rfl rfl ?_
            refine rn tk 3 rfl ?_
            refine ac 15 hr rfl (fun c63 hr => ?_) (fun c63 hr => ?_)
            ·
             refine rn tk 4 rfl ?_
             refine wo (opTo_mapUpdate (KK := keyS) (F := cB) (es := s56.2.2) (k := v61) (v := true) rfl rfl rfl rfl rfl ty_map_string_bool.u ty_string.u) rfl ?_
             refine rn tk 5 rfl ?_
             refine wz cS ([v61] : List Str) tk rfl rfl (fun _ => rfl) rfl rfl rfl ?_
             obtain ⟨v64, h65, hr⟩ := bind_some hr
             refine wa tk h65 rfl rfl rfl rfl (fun _ => rfl) rfl rfl ?_
             refine rn tk 3 rfl ?_
             cases hr
             exact jn _ rfl rfl rfl
            ·
             refine rn tk 2 rfl ?_
             cases hr
             exact jn _ rfl rfl rfl
           ·
            refine rn tk 4 rfl ?_
            cases hr
            exact atc rfl rfl
          ·
           refine rn tk 2 rfl ?_
           cases hr
           exact ato rfl rfl rfl rfl
         ·
          refine rn tk 1 rfl ?_
          refine ie tk [] [(0, .fn (.yield b15) [] []), (4, .mp 1006), (6, .ptr 6 0), (7, .fn (.func 49) [] [.ptr 1005 0, .ptr 6 0])] [(2006, .row 9 false 1 (List.map cS b57.1)), (6, .cells [.hs 2006 0]), (1005, .cells [.mp 1011]), (1011, .mapo false (menc keyS cB b57.2)), (1006, .mapo false (menc keyS (cL cS) b14)), (1599999, .sus g0.w.heap.size ds15), (1599998, .lp b15 L15), (1500002, .hold (.ptr 2 0) (T15.getD 2 undef)), (1500005, .hold (.ptr 5 0) (T15.getD 5 undef)), (1500007, .hold (.ptr 7 0) (T15.getD 7 undef)), (1500023, .hold (.fn (.func 47) [] [.ptr 1002 0, .ptr 3 0]) (T15.getD 23 undef)), (3, .cells [.l cS (([a1] : List Str))]), (1002, .cells [.l TAlias.pc v11]), (1007, .row 9 false 1 (List.map cS s29.2.2)), (7, .cells [.hs 1007 0]), (5, .cells [.i 0, .i 0]), (2, .cells [.l TForward.pc a0])] (.inl rfl) rfl rfl rfl rfl (hO ?_)
          refine rn tk 2 rfl ?_
          cases hr
          exact atc rfl rfl
      ·
       refine rn tk 2 rfl ?_
       cases hr
       exact ato rfl rfl rfl rfl
     ·
      refine rn tk 1 rfl ?_
      refine itrK (fr' := []) (L' := L15) (fr'' := [(2, .ptr 2 0), (5, .ptr 5 0), (7, .ptr 7 0), (23, .fn (.func 47) [] [.ptr 1002 0, .ptr 3 0])]) (σ'' := [(3, .cells [.l cS (([a1] : List Str))]), (1002, .cells [.l TAlias.pc v11]), (1007, .row 9 false 1 (List.map cS b30)), (7, .cells [.hs 1007 0]), (5, .cells [.i 0, .i 0]), (2, .cells [.l TForward.pc a0])]) (.inr rfl) stoLe_refl rfl (.cons rfl (.cons rfl (.cons rfl (.cons rfl .nil)))) rfl (stoLe_cons rfl (stoLe_cons rfl (stoLe_cons rfl (stoLe_cons rfl (stoLe_cons rfl (stoLe_cons rfl stoLe_nil)))))) rfl ?_
      refine .off (hA ?_)
      refine rn tk 3 rfl ?_
      obtain ⟨v66, h67, hr⟩ := bind_some hr
      refine dr 2 [(42, .agg [.i v66.Code, .i v66.Index]), (41, .hs 1007 0)] mixed (by kernel_rfl) rfl rfl (pq tk rfl (.plain rfl) (.run (.plain rfl) (opG_call (basic_None_run  v66 h67) rfl) .nil)) rfl ?_
      refine rn tk 4 rfl ?_
      refine awp_pub (d := 4) (F := cS) (l := b30) rfl rfl (hC ?_)
      refine rn tk 1 rfl ?_
      cases hr
      exact kr tk (.inr rfl) rfl rfl
theorem L_forwards_run  (r : Bool) (hr : L_forwards = some r) : Run Tryz.prog 7 [] (.bo r) := by
 unfold L_forwards at hr
 refine rf (fn := Tryz.f7) ⟨Tryz.func7, rfl, by kernel_rfl⟩ rfl (fun _ => rfl) fun g0 hg => ?_
 refine rn tk 7 rfl ?_
 refine wz cS ([([98, 64, 120] : Str)] : List Str) tk rfl rfl (fun _ => rfl) rfl rfl rfl ?_
 refine rn tk 1 rfl ?_
 refine wz cS ([([97, 64, 120] : Str), ([99, 64, 120] : Str)] : List Str) tk rfl rfl (fun _ => rfl) rfl rfl rfl ?_
 refine rn tk 1 rfl ?_
 refine wz TForward.pc ([(TForward.mk (([97, 64, 120] : Str)) (([([98, 64, 120] : Str)] : List Str)) true), (TForward.mk (([98, 64, 120] : Str)) (([([97, 64, 120] : Str), ([99, 64, 120] : Str)] : List Str)) false)] : List TForward) tk rfl rfl (fun _ => rfl) rfl rfl rfl ?_
 refine rn tk 6 rfl ?_
 obtain ⟨v1, h2, hr⟩ := bind_some hr
 refine cl (forward_Tree_run _ _ _ h2) rfl rfl ?_
 refine rn tk 11 rfl ?_
 refine wz cS ([([97, 64, 120] : Str), ([100, 64, 120] : Str)] : List Str) tk rfl rfl (fun _ => rfl) rfl rfl rfl ?_
 obtain ⟨v3, h4, hr⟩ := bind_some hr
 refine cl (L_plain_run _ _ h4) rfl rfl ?_
 obtain ⟨v5, h6, hr⟩ := bind_some hr
 refine cl (forward_Step_run _ _ _ h6) rfl rfl ?_
 refine rn tk 13 rfl ?_
 refine jb hr (fun j7 => [(2, .l cS v1.1), (4, .l cS v5.1), (5, .l TMail.pc v5.2.1), (62, .bo j7)]) (fun j7 => []) (fun j7 hr => ?_) (fun j7 hr => ?_)
 ·
  refine rn tk 5 rfl ?_
  refine bs 30 hr rfl (fun c8 hr => ?_) (fun c8 hr => ?_)
  ·
   refine rn tk 33 rfl ?_
   cases hr
   exact jn _ rfl rfl rfl
  ·
   refine rn tk 5 rfl ?_
   refine bs 35 hr rfl (fun c9 hr => ?_) (fun c9 hr => ?_)
   ·
    refine rn tk 28 rfl ?_
    cases hr
    exact jn _ rfl rfl rfl
   ·
    refine rn tk 1 rfl ?_
    refine ug rfl rfl rfl ?_
    refine wn tk rfl rfl rfl ?_
    refine rn tk 3 rfl ?_
    refine bs 40 hr rfl (fun c10 hr => ?_) (fun c10 hr => ?_)
    ·
     refine rn tk 23 rfl ?_
     cases hr
     exact jn _ rfl rfl rfl
    ·
     refine rn tk 1 rfl ?_
     refine ug rfl rfl rfl ?_
     refine wn tk rfl rfl rfl ?_
     refine rn tk 3 rfl ?_
     refine bs 45 hr rfl (fun c11 hr => ?_) (fun c11 hr => ?_)
     ·
      refine rn tk 18 rfl ?_
      cases hr
      exact jn _ rfl rfl rfl
     ·
      refine rn tk 1 rfl ?_
      obtain ⟨v12, h13, hr⟩ := bind_some hr
      refine ug rfl rfl rfl ?_
      refine wi tk h13 rfl rfl rfl rfl rfl ?_
      refine rn tk 3 rfl ?_
      refine ug rfl rfl rfl ?_
      refine wn tk rfl rfl rfl ?_
      refine rn tk 3 rfl ?_
      refine bs 54 hr rfl (fun c14 hr => ?_) (fun c14 hr => ?_)
      ·
       refine rn tk 9 rfl ?_
       cases hr
       exact jn _ rfl rfl rfl
      ·
       refine rn tk 1 rfl ?_
       obtain ⟨v15, h16, hr⟩ := bind_some hr
       refine ug rfl rfl rfl ?_
       refine wi tk h16 rfl rfl rfl rfl rfl ?_
       refine rn tk 3 rfl ?_
       refine ug rfl rfl rfl ?_
       refine wn tk rfl rfl rfl ?_
       refine rn tk 3 rfl ?_
       cases hr
       exact jn _ rfl rfl rfl
 ·
  refine ac 62 hr rfl (fun c17 hr => ?_) (fun c17 hr => ?_)
  ·
   refine rn tk 7 rfl ?_
   cases hr
   exact kr tk (.inr rfl) rfl rfl
  ·
   refine rn tk 2 rfl ?_
   refine jb hr (fun j18 => [(0, .bo j18)]) (fun j18 => []) (fun j18 hr => ?_) (fun j18 hr => ?_)
   ·
    refine rn tk 2 rfl ?_
    refine wz cS ([([97, 64, 120] : Str), ([99, 64, 120] : Str)] : List Str) tk rfl rfl (fun _ => rfl) rfl rfl rfl ?_
    obtain ⟨v19, h20, hr⟩ := bind_some hr
    refine cl (R_Strings_run _ _ _ h20) rfl rfl ?_
    refine rn tk 1 rfl ?_
    refine bs 66 hr rfl (fun c21 hr => ?_) (fun c21 hr => ?_)
    ·
     refine rn tk 1 rfl ?_
     refine ug rfl rfl rfl ?_
     refine wz cS ([([97, 64, 120] : Str), ([100, 64, 120] : Str)] : List Str) tk rfl rfl (fun _ => rfl) rfl rfl rfl ?_
     obtain ⟨v22, h23, hr⟩ := bind_some hr
     refine ug rfl rfl rfl ?_
     refine cl (R_Strings_run _ _ _ h23) rfl rfl ?_
     refine rn tk 2 rfl ?_
     refine bs 71 hr rfl (fun c24 hr => ?_) (fun c24 hr => ?_)
     ·
      refine rn tk 1 rfl ?_
      obtain ⟨v25, h26, hr⟩ := bind_some hr
      refine ug rfl rfl rfl ?_
      refine wi tk h26 rfl rfl rfl rfl rfl ?_
      refine rn tk 3 rfl ?_
      obtain ⟨v27, h28, hr⟩ := bind_some hr
      refine ug rfl rfl rfl ?_
      refine wi tk h28 rfl rfl rfl rfl rfl ?_
      refine rn tk 2 rfl ?_
      refine ug rfl rfl rfl ?_
      refine wq (ev_structeq rfl rfl ty_api_Field cmp_api_Field (.str rfl (by decide) ty_string (.str rfl (by decide) ty_string .nil))) rfl rfl rfl ?_
      refine rn tk 2 rfl ?_
      refine bs 82 hr rfl (fun c29 hr => ?_) (fun c29 hr => ?_)
      ·
       refine rn tk 1 rfl ?_
       obtain ⟨v30, h31, hr⟩ := bind_some hr
       refine ug rfl rfl rfl ?_
       refine wi tk h31 rfl rfl rfl rfl rfl ?_
       refine rn tk 3 rfl ?_
       obtain ⟨v32, h33, hr⟩ := bind_some hr
       refine ug rfl rfl rfl ?_
       refine wi tk h33 rfl rfl rfl rfl rfl ?_
       refine rn tk 6 rfl ?_
       cases hr
       exact jn _ rfl rfl rfl
      ·
       refine rn tk 12 rfl ?_
       cases hr
       exact jn _ rfl rfl rfl
     ·
      refine rn tk 23 rfl ?_
      cases hr
      exact jn _ rfl rfl rfl
    ·
     refine rn tk 28 rfl ?_
     cases hr
     exact jn _ rfl rfl rfl
   ·
    refine rn tk 1 rfl ?_
    cases hr
    exact kr tk (.inr rfl) rfl rfl
theorem R_At_run (a0 : Int) (a1 : Int) (r : TFault) (hr : R_At a0 a1 = some r) : Run Tryz.prog 10 [.i a0, .i a1] (.agg [.i r.Code, .i r.Index]) := by
 unfold R_At at hr
 refine rf (fn := Tryz.f10) ⟨Tryz.func10, rfl, by kernel_rfl⟩ rfl (fun _ => rfl) fun g0 hg => ?_
 refine rn tk 14 rfl ?_
 cases hr
 exact kr tk (.inr rfl) rfl rfl
theorem R_In_run (a0 : Int) (a1 : Int) (a2 : Int) (r : Bool) (hr : R_In a0 a1 a2 = some r) : Run Tryz.prog 29 [.i a0, .i a1, .i a2] (.bo r) := by
 unfold R_In at hr
 refine rf (fn := Tryz.f29) ⟨Tryz.func29, rfl, by kernel_rfl⟩ rfl (fun _ => rfl) fun g0 hg => ?_
 refine rn tk 5 rfl ?_
 refine jb hr (fun j1 => [(6, .bo j1)]) (fun j1 => []) (fun j1 hr => ?_) (fun j1 hr => ?_)
 ·
  refine rn tk 5 rfl ?_
  refine bs 10 hr rfl (fun c2 hr => ?_) (fun c2 hr => ?_)
  ·
   refine rn tk 6 rfl ?_
   cases hr
   exact jn _ rfl rfl rfl
  ·
   refine rn tk 6 rfl ?_
   cases hr
   exact jn _ rfl rfl rfl
 ·
  refine rn tk 1 rfl ?_
  cases hr
  exact kr tk (.inr rfl) rfl rfl
theorem R_DomainOk_run (a0 : Str) (r : Bool) (hr : R_DomainOk a0 = some r) : Run Tryz.prog 30 [.s a0] (.bo r) := by
 unfold R_DomainOk at hr
 refine rf (fn := Tryz.f30) ⟨Tryz.func30, rfl, by kernel_rfl⟩ rfl (fun _ => rfl) fun g0 hg => ?_
 refine rn tk 12 rfl ?_
 refine al2 hr (fun s1 => [(0, .s a0), (3, .i s1)]) (fun s1 => []) (.exit 0) (fun b2 => [(0, .s a0)]) (fun b2 => []) .ret (fun b3 => [(2, .bo b3)]) (fun b3 => []) rfl rfl (fun s1 x5 hr => ?_) (fun b2 hr => ?_) (fun b3 hr => ?_)
 ·
  unfold R_DomainOk_l1 at hr
  refine rn tk 9 rfl ?_
  refine ac 8 hr rfl (fun c6 hr => ?_) (fun c6 hr => ?_)
  ·
   refine rn tk 8 rfl ?_
   obtain ⟨v7, h8, hr⟩ := bind_some hr
   refine ws tk h8 rfl rfl rfl rfl ?_
   refine wu tk rfl rfl rfl ?_
   refine rn tk 4 rfl ?_
   refine jb hr (fun j9 => [(0, .s a0), (3, .i s1), (4, .i ((v7.toNat : Int))), (36, .bo j9)]) (fun j9 => []) (fun j9 hr => ?_) (fun j9 hr => ?_)
   ·
    refine rn tk 3 rfl ?_
    obtain ⟨v10, h11, hr⟩ := bind_some hr
    refine ws tk h11 rfl rfl rfl rfl ?_
    refine rn tk 2 rfl ?_
    refine bs 19 hr rfl (fun c12 hr => ?_) (fun c12 hr => ?_)
    ·
     refine rn tk 3 rfl ?_
     refine bs 22 hr rfl (fun c13 hr => ?_) (fun c13 hr => ?_)
     ·
      refine rn tk 15 rfl ?_
      cases hr
      exact jn _ rfl rfl rfl
     ·
      refine rn tk 7 rfl ?_
      refine bs 29 hr rfl (fun c14 hr => ?_) (fun c14 hr => ?_)
      ·
       refine rn tk 8 rfl ?_
       cases hr
       exact jn _ rfl rfl rfl
      ·
       refine rn tk 3 rfl ?_
       obtain ⟨v15, h16, hr⟩ := bind_some hr
       refine ug rfl rfl rfl ?_
       refine ws tk h16 rfl rfl rfl rfl ?_
       refine rn tk 4 rfl ?_
       cases hr
       exact jn _ rfl rfl rfl
    ·
     refine rn tk 18 rfl ?_
     cases hr
     exact jn _ rfl rfl rfl
   ·
    refine ac 36 hr rfl (fun c17 hr => ?_) (fun c17 hr => ?_)
    ·
     refine rn tk 9 rfl ?_
     cases hr
     exact ato rfl rfl rfl rfl
    ·
     refine rn tk 2 rfl ?_
     refine jb hr (fun j18 => [(0, .s a0), (3, .i s1), (56, .bo j18)]) (fun j18 => []) (fun j18 hr => ?_) (fun j18 hr => ?_)
     ·
      refine rn tk 2 rfl ?_
      obtain ⟨v19, h20, hr⟩ := bind_some hr
      refine cl (R_In_run _ _ _ _ h20) rfl rfl ?_
      refine rn tk 2 rfl ?_
      refine bs 40 hr rfl (fun c21 hr => ?_) (fun c21 hr => ?_)
      ·
       refine rn tk 1 rfl ?_
       obtain ⟨v22, h23, hr⟩ := bind_some hr
       refine ug rfl rfl rfl ?_
       refine cl (R_In_run _ _ _ _ h23) rfl rfl ?_
       refine rn tk 3 rfl ?_
       refine bs 45 hr rfl (fun c24 hr => ?_) (fun c24 hr => ?_)
       ·
        refine rn tk 2 rfl ?_
        obtain ⟨v25, h26, hr⟩ := bind_some hr
        refine ug rfl rfl rfl ?_
        refine ws tk h26 rfl rfl rfl rfl ?_
        refine rn tk 3 rfl ?_
        refine bs 51 hr rfl (fun c27 hr => ?_) (fun c27 hr => ?_)
        ·
         refine rn tk 2 rfl ?_
         obtain ⟨v28, h29, hr⟩ := bind_some hr
         refine ug rfl rfl rfl ?_
         refine ws tk h29 rfl rfl rfl rfl ?_
         refine rn tk 3 rfl ?_
         cases hr
         exact jn _ rfl rfl rfl
        ·
         refine rn tk 6 rfl ?_
         cases hr
         exact jn _ rfl rfl rfl
       ·
        refine rn tk 12 rfl ?_
        cases hr
        exact jn _ rfl rfl rfl
      ·
       refine rn tk 17 rfl ?_
       cases hr
       exact jn _ rfl rfl rfl
     ·
      refine ac 56 hr rfl (fun c30 hr => ?_) (fun c30 hr => ?_)
      ·
       refine rn tk 8 rfl ?_
       cases hr
       exact ato rfl rfl rfl rfl
      ·
       refine rn tk 8 rfl ?_
       cases hr
       exact atc rfl rfl
  ·
   refine rn tk 2 rfl ?_
   cases hr
   exact ato rfl rfl rfl rfl
 ·
  refine rn tk 6 rfl ?_
  obtain ⟨v31, h32, hr⟩ := bind_some hr
  refine cl (R_In_run _ _ _ _ h32) rfl rfl ?_
  refine rn tk 4 rfl ?_
  cases hr
  exact kr tk (.inr rfl) rfl rfl
 ·
  refine rn tk 2 rfl ?_
  cases hr
  exact kr tk (.inr rfl) rfl rfl
theorem R_letterOrDigit_run (a0 : UInt8) (r : Bool) (hr : R_letterOrDigit a0 = some r) : Run Tryz.prog 28 [.u8 a0] (.bo r) := by
 unfold R_letterOrDigit at hr
 refine rf (fn := Tryz.f28) ⟨Tryz.func28, rfl, by kernel_rfl⟩ rfl (fun _ => rfl) fun g0 hg => ?_
 refine rn tk 8 rfl ?_
 refine wu tk rfl rfl rfl ?_
 refine rn tk 3 rfl ?_
 refine jb hr (fun j1 => [(2, .bo j1)]) (fun j1 => []) (fun j1 hr => ?_) (fun j1 hr => ?_)
 ·
  refine rn tk 2 rfl ?_
  obtain ⟨v2, h3, hr⟩ := bind_some hr
  refine cl (R_In_run _ _ _ _ h3) rfl rfl ?_
  refine rn tk 1 rfl ?_
  refine bs 8 hr rfl (fun c4 hr => ?_) (fun c4 hr => ?_)
  ·
   refine rn tk 9 rfl ?_
   cases hr
   exact jn _ rfl rfl rfl
  ·
   refine rn tk 1 rfl ?_
   obtain ⟨v5, h6, hr⟩ := bind_some hr
   refine ug rfl rfl rfl ?_
   refine cl (R_In_run _ _ _ _ h6) rfl rfl ?_
   refine rn tk 2 rfl ?_
   refine bs 12 hr rfl (fun c7 hr => ?_) (fun c7 hr => ?_)
   ·
    refine rn tk 5 rfl ?_
    cases hr
    exact jn _ rfl rfl rfl
   ·
    refine rn tk 1 rfl ?_
    obtain ⟨v8, h9, hr⟩ := bind_some hr
    refine ug rfl rfl rfl ?_
    refine cl (R_In_run _ _ _ _ h9) rfl rfl ?_
    refine rn tk 3 rfl ?_
    cases hr
    exact jn _ rfl rfl rfl
 ·
  refine rn tk 1 rfl ?_
  cases hr
  exact kr tk (.inr rfl) rfl rfl
theorem R_sign_run (a0 : Str) (r : Int) (hr : R_sign a0 = some r) : Run Tryz.prog 27 [.s a0] (.i r) := by
 unfold R_sign at hr
 refine rf (fn := Tryz.f27) ⟨Tryz.func27, rfl, by kernel_rfl⟩ rfl (fun _ => rfl) fun g0 hg => ?_
 refine rn tk 12 rfl ?_
 refine al2 hr (fun s1 => [(0, .s a0), (3, .i s1)]) (fun s1 => []) (.exit 0) (fun b2 => [(0, .s a0)]) (fun b2 => []) .ret (fun b3 => [(2, .i b3)]) (fun b3 => []) rfl rfl (fun s1 x5 hr => ?_) (fun b2 hr => ?_) (fun b3 hr => ?_)
 ·
  unfold R_sign_l1 at hr
  refine rn tk 9 rfl ?_
  refine ac 7 hr rfl (fun c6 hr => ?_) (fun c6 hr => ?_)
  ·
   refine rn tk 8 rfl ?_
   obtain ⟨v7, h8, hr⟩ := bind_some hr
   refine ws tk h8 rfl rfl rfl rfl ?_
   refine rn tk 3 rfl ?_
   refine ac 13 hr rfl (fun c9 hr => ?_) (fun c9 hr => ?_)
   ·
    refine rn tk 9 rfl ?_
    cases hr
    exact ato rfl rfl rfl rfl
   ·
    refine rn tk 8 rfl ?_
    cases hr
    exact atc rfl rfl
  ·
   refine rn tk 2 rfl ?_
   cases hr
   exact ato rfl rfl rfl rfl
 ·
  refine rn tk 10 rfl ?_
  cases hr
  exact kr tk (.inr rfl) rfl rfl
 ·
  refine rn tk 2 rfl ?_
  cases hr
  exact kr tk (.inr rfl) rfl rfl
theorem R_AddressOk_run (a0 : Str) (r : Bool) (hr : R_AddressOk a0 = some r) : Run Tryz.prog 9 [.s a0] (.bo r) := by
 unfold R_AddressOk at hr
 refine rf (fn := Tryz.f9) ⟨Tryz.func9, rfl, by kernel_rfl⟩ rfl (fun _ => rfl) fun g0 hg => ?_
 refine rn tk 8 rfl ?_
 obtain ⟨v1, h2, hr⟩ := bind_some hr
 refine cl (R_sign_run _ _ h2) rfl rfl ?_
 refine rn tk 10 rfl ?_
 refine al2 hr (fun s3 => [(0, .s a0), (3, .i v1), (4, .i s3)]) (fun s3 => []) (.exit 0) (fun b4 => [(0, .s a0), (3, .i v1)]) (fun b4 => []) .ret (fun b5 => [(2, .bo b5)]) (fun b5 => []) rfl rfl (fun s3 x7 hr => ?_) (fun b4 hr => ?_) (fun b5 hr => ?_)
 ·
  unfold R_AddressOk_l1 at hr
  refine rn tk 8 rfl ?_
  refine ac 10 hr rfl (fun c8 hr => ?_) (fun c8 hr => ?_)
  ·
   refine rn tk 8 rfl ?_
   obtain ⟨v9, h10, hr⟩ := bind_some hr
   refine ws tk h10 rfl rfl rfl rfl ?_
   refine rn tk 3 rfl ?_
   refine jb hr (fun j11 => [(0, .s a0), (3, .i v1), (4, .i s3), (38, .bo j11)]) (fun j11 => []) (fun j11 hr => ?_) (fun j11 hr => ?_)
   ·
    refine rn tk 2 rfl ?_
    obtain ⟨v12, h13, hr⟩ := bind_some hr
    refine cl (R_letterOrDigit_run _ _ h13) rfl rfl ?_
    refine rn tk 2 rfl ?_
    refine bs 19 hr rfl (fun c14 hr => ?_) (fun c14 hr => ?_)
    ·
     refine rn tk 4 rfl ?_
     refine bs 23 hr rfl (fun c15 hr => ?_) (fun c15 hr => ?_)
     ·
      refine rn tk 4 rfl ?_
      refine bs 27 hr rfl (fun c16 hr => ?_) (fun c16 hr => ?_)
      ·
       refine rn tk 4 rfl ?_
       refine bs 31 hr rfl (fun c17 hr => ?_) (fun c17 hr => ?_)
       ·
        refine rn tk 4 rfl ?_
        refine bs 35 hr rfl (fun c18 hr => ?_) (fun c18 hr => ?_)
        ·
         refine rn tk 4 rfl ?_
         cases hr
         exact jn _ rfl rfl rfl
        ·
         refine rn tk 4 rfl ?_
         cases hr
         exact jn _ rfl rfl rfl
       ·
        refine rn tk 8 rfl ?_
        cases hr
        exact jn _ rfl rfl rfl
      ·
       refine rn tk 12 rfl ?_
       cases hr
       exact jn _ rfl rfl rfl
     ·
      refine rn tk 16 rfl ?_
      cases hr
      exact jn _ rfl rfl rfl
    ·
     refine rn tk 20 rfl ?_
     cases hr
     exact jn _ rfl rfl rfl
   ·
    refine ac 38 hr rfl (fun c19 hr => ?_) (fun c19 hr => ?_)
    ·
     refine rn tk 8 rfl ?_
     cases hr
     exact ato rfl rfl rfl rfl
    ·
     refine rn tk 8 rfl ?_
     cases hr
     exact atc rfl rfl
  ·
   refine rn tk 2 rfl ?_
   cases hr
   exact ato rfl rfl rfl rfl
 ·
  refine rn tk 2 rfl ?_
  refine jb hr (fun j20 => [(2, .bo j20)]) (fun j20 => []) (fun j20 hr => ?_) (fun j20 hr => ?_)
  ·
   refine rn tk 2 rfl ?_
   obtain ⟨v21, h22, hr⟩ := bind_some hr
   refine cl (R_In_run _ _ _ _ h22) rfl rfl ?_
   refine rn tk 1 rfl ?_
   refine bs 41 hr rfl (fun c23 hr => ?_) (fun c23 hr => ?_)
   ·
    refine rn tk 6 rfl ?_
    refine bs 47 hr rfl (fun c24 hr => ?_) (fun c24 hr => ?_)
    ·
     refine rn tk 3 rfl ?_
     obtain ⟨v25, h26, hr⟩ := bind_some hr
     refine ug rfl rfl rfl ?_
     refine wscL tk h26 rfl rfl rfl rfl ?_
     obtain ⟨v27, h28, hr⟩ := bind_some hr
     refine ug rfl rfl rfl ?_
     refine cl (R_DomainOk_run _ _ h28) rfl rfl ?_
     refine rn tk 3 rfl ?_
     cases hr
     exact jn _ rfl rfl rfl
    ·
     refine rn tk 8 rfl ?_
     cases hr
     exact jn _ rfl rfl rfl
   ·
    refine rn tk 14 rfl ?_
    cases hr
    exact jn _ rfl rfl rfl
  ·
   refine rn tk 1 rfl ?_
   cases hr
   exact kr tk (.inr rfl) rfl rfl
 ·
  refine rn tk 2 rfl ?_
  cases hr
  exact kr tk (.inr rfl) rfl rfl
theorem R_AddressesOk_run (a0 : List Str) (r : Bool) (hr : R_AddressesOk a0 = some r) : Run Tryz.prog 45 [.l cS a0] (.bo r) := by
  unfold R_AddressesOk at hr
  refine run_of_awp (fn := Tryz.f45) ⟨Tryz.func45, rfl, by kernel_rfl⟩ rfl (fun _ => rfl) fun g0 hg => ?_
  refine awp_seq ?_
  refine awp_region ?_
  refine awpl_op rfl (opTo_q (d := 2) rfl rfl ev_assign) ?_
  refine awpl_nil ?_
  refine kthen_normal ?_
  refine awp_seq ?_
  refine awp_seq ?_
  refine awp_region ?_
  refine awpl_op rfl (opTo_q (d := 3) rfl rfl ev_assign) ?_
  refine awpl_nil ?_
  refine kthen_normal ?_
  refine awp_block ?_
  obtain ⟨o4, hl, hr⟩ := bind_some hr
  refine awp_loop (R_AddressesOk_l1 a0) (fun s1 => [(0, .l cS a0), (3, .i s1)]) (fun s1 => []) (fun o => match o with | .inl b2 => At (.exit 0) [] [] | .inr b3 => At .ret [(2, .bo b3)] []) ?_ 0 hl (frLe_cons rfl (frLe_cons rfl frLe_nil)) stoLe_nil ?_
  · intro s1 x5 hr
    unfold R_AddressesOk_l1 at hr
    refine awp_seq ?_
    refine awp_seq ?_
    refine awp_region ?_
    refine awpl_op rfl (opTo_q (d := 4) rfl rfl ev_move) ?_
    refine awpl_op rfl (opTo_q (d := 5) rfl rfl ev_move) ?_
    refine awpl_op rfl (opTo_q (d := 6) rfl rfl (ev_llen (f := cS) rfl ty_s_string.u)) ?_
    refine awpl_op rfl (opTo_q (d := 7) rfl rfl (ev_lss rfl rfl)) ?_
    refine awpl_nil ?_
    refine kthen_normal ?_
    refine awp_cond rfl (fun c6 => ?_) (fun c6 => ?_)
    · replace hr := cond_t c6 hr
      refine awp_skip ?_
      refine kthen_normal ?_
      refine awp_seq ?_
      refine awp_block ?_
      refine awp_seq ?_
      refine awp_region ?_
      refine awpl_op rfl (opTo_q (d := 10) rfl rfl ev_move) ?_
      refine awpl_op rfl (opTo_q (d := 11) rfl rfl ev_move) ?_
      obtain ⟨v7, h8, hr⟩ := bind_some hr
      refine awpl_op rfl (opTo_q (d := 12) rfl rfl (ev_idx (f := cS) rfl rfl ty_s_string ty_string rfl h8)) ?_
      refine awpl_op rfl (opTo_q (d := 13) rfl rfl (ev_load_ep rfl ty_string rfl rfl)) ?_
      obtain ⟨v9, h10, hr⟩ := bind_some hr
      refine awpl_op rfl (opTo_call (k := 14) (R_AddressOk_run v7 v9 h10) rfl rfl) ?_
      refine awpl_op rfl (opTo_q (d := 15) rfl rfl (ev_not rfl)) ?_
      refine awpl_nil ?_
      refine kthen_normal ?_
      refine awp_cond rfl (fun c11 => ?_) (fun c11 => ?_)
      · replace hr := cond_t c11 hr
        refine awp_seq ?_
        refine awp_region ?_
        refine awpl_op rfl (opTo_q (d := 2) rfl rfl ev_assign) ?_
        refine awpl_nil ?_
        refine kthen_normal ?_
        refine awp_ret ?_
        refine kblock_ret ?_
        refine kthen_ret ?_
        cases hr
        exact ⟨by simp, rfl, (frLe_cons rfl frLe_nil), stoLe_nil⟩
      · replace hr := cond_f c11 hr
        refine awp_skip ?_
        refine kblock_normal ?_
        refine kthen_normal ?_
        refine awp_region ?_
        refine awpl_op rfl (opTo_q (d := 8) rfl rfl ev_move) ?_
        refine awpl_op rfl (opTo_q (d := 9) rfl rfl (ev_add rfl rfl)) ?_
        refine awpl_op rfl (opTo_q (d := 3) rfl rfl ev_assign) ?_
        refine awpl_nil ?_
        cases hr
        exact ⟨rfl, (frLe_cons rfl (frLe_cons rfl frLe_nil)), stoLe_nil⟩
    · replace hr := cond_f c6 hr
      refine awp_exit ?_
      refine kthen_exit ?_
      cases hr
      exact ⟨by simp, rfl, frLe_nil, stoLe_nil⟩
  · intro e fr2 st2 hq
    rcases o4 with b2 | b3
    · obtain ⟨rfl, hf, hs⟩ := hq
      refine kblock_exit ?_
      refine kthen_normal ?_
      refine awp_le hf hs ?_
      refine awp_seq ?_
      refine awp_region ?_
      refine awpl_op rfl (opTo_q (d := 2) rfl rfl ev_assign) ?_
      refine awpl_nil ?_
      refine kthen_normal ?_
      refine awp_ret ?_
      cases hr
      exact kret' rfl (.cons (res_tmp rfl) .nil) rfl
    · obtain ⟨rfl, hf, hs⟩ := hq
      refine kblock_ret ?_
      refine kthen_ret ?_
      cases hr
      exact kret' rfl (.cons (res1_le hf hs (res_tmp rfl)) .nil) rfl
theorem R_AliasesFault_run (a0 : List TAlias) (r : TFault) (hr : R_AliasesFault a0 = some r) : Run Tryz.prog 16 [.l TAlias.pc a0] (.agg [.i r.Code, .i r.Index]) := by
  unfold R_AliasesFault at hr
  refine run_of_awp (fn := Tryz.f16) ⟨Tryz.func16, rfl, by kernel_rfl⟩ rfl (fun _ => rfl) fun g0 hg => ?_
  refine awp_seq ?_
  refine awp_region ?_
  refine awpl_op rfl (opTo_alloc (k := 2) 2 rfl ty_api_Fault (.inr ⟨rfl, rfl⟩) rfl rfl rfl) ?_
  refine awpl_nil ?_
  refine kthen_normal ?_
  refine awp_seq ?_
  refine awp_seq ?_
  refine awp_region ?_
  refine awpl_op rfl (opTo_q (d := 5) rfl rfl ev_move) ?_
  refine awpl_op rfl (opTo_q (d := 6) rfl rfl (ev_llen (f := TAlias.pc) rfl ty_s_api_Alias.u)) ?_
  refine awpl_op rfl (opTo_q (d := 7) rfl rfl (ev_gtr rfl rfl)) ?_
  refine awpl_nil ?_
  refine kthen_normal ?_
  refine awp_cond rfl (fun c1 => ?_) (fun c1 => ?_)
  · replace hr := cond_t c1 hr
    refine awp_seq ?_
    refine awp_region ?_
    obtain ⟨v2, h3, hr⟩ := bind_some hr
    refine awpl_op rfl (opTo_call (k := 8) (R_At_run 2 ((-1)) v2 h3) rfl rfl) ?_
    refine awpl_op rfl (opTo_store rfl rfl rfl ty_api_Fault rfl rfl) ?_
    refine awpl_nil ?_
    refine kthen_normal ?_
    refine awp_ret ?_
    refine kthen_ret ?_
    cases hr
    exact kret' rfl (.cons (res_cellN rfl rfl ty_api_Fault rfl rfl) .nil) rfl
  · replace hr := cond_f c1 hr
    refine awp_skip ?_
    refine kthen_normal ?_
    refine awp_seq ?_
    refine awp_seq ?_
    refine awp_region ?_
    refine awpl_op rfl (opTo_q (d := 3) rfl rfl ev_assign) ?_
    refine awpl_nil ?_
    refine kthen_normal ?_
    refine awp_block ?_
    obtain ⟨o7, hl, hr⟩ := bind_some hr
    refine awp_loop (R_AliasesFault_l1 a0) (fun s4 => [(0, .l TAlias.pc a0), (2, .ptr 2 0), (3, .i s4)]) (fun s4 => [(2, .cells [.i 0, .i 0])]) (fun o => match o with | .inl b5 => At (.exit 0) [(2, .ptr 2 0)] [(2, .cells [.i 0, .i 0])] | .inr b6 => At .ret [(2, .ptr 2 0)] [(2, .cells [.i b6.Code, .i b6.Index])]) ?_ 0 hl (frLe_cons rfl (frLe_cons rfl (frLe_cons rfl frLe_nil))) (stoLe_cons rfl stoLe_nil) ?_
    · intro s4 x8 hr
      unfold R_AliasesFault_l1 at hr
      refine awp_seq ?_
      refine awp_seq ?_
      refine awp_region ?_
      refine awpl_op rfl (opTo_q (d := 9) rfl rfl ev_move) ?_
      refine awpl_op rfl (opTo_q (d := 10) rfl rfl ev_move) ?_
      refine awpl_op rfl (opTo_q (d := 11) rfl rfl (ev_llen (f := TAlias.pc) rfl ty_s_api_Alias.u)) ?_
      refine awpl_op rfl (opTo_q (d := 12) rfl rfl (ev_lss rfl rfl)) ?_
      refine awpl_nil ?_
      refine kthen_normal ?_
      refine awp_cond rfl (fun c9 => ?_) (fun c9 => ?_)
      · replace hr := cond_t c9 hr
        refine awp_skip ?_
        refine kthen_normal ?_
        refine awp_seq ?_
        refine awp_block ?_
        refine awp_seq ?_
        refine awp_seq ?_
        refine awp_region ?_
        refine awpl_op rfl (opTo_q (d := 15) rfl rfl ev_move) ?_
        refine awpl_op rfl (opTo_q (d := 16) rfl rfl ev_move) ?_
        obtain ⟨v10, h11, hr⟩ := bind_some hr
        refine awpl_op rfl (opTo_q (d := 17) rfl rfl (ev_idx (f := TAlias.pc) rfl rfl ty_s_api_Alias ty_api_Alias rfl h11)) ?_
        refine awpl_op rfl (opTo_q (d := 18) rfl rfl (ev_fieldAddr_ep rfl ty_api_Alias.u rfl ty_string rfl rfl)) ?_
        refine awpl_op rfl (opTo_q (d := 19) rfl rfl (ev_load_ep rfl ty_string rfl rfl)) ?_
        obtain ⟨v12, h13, hr⟩ := bind_some hr
        refine awpl_op rfl (opTo_call (k := 20) (R_AddressOk_run v10.Address v12 h13) rfl rfl) ?_
        refine awpl_op rfl (opTo_q (d := 21) rfl rfl (ev_not rfl)) ?_
        refine awpl_nil ?_
        refine kthen_normal ?_
        refine awp_cond rfl (fun c14 => ?_) (fun c14 => ?_)
        · replace hr := cond_t c14 hr
          refine awp_seq ?_
          refine awp_region ?_
          refine awpl_op rfl (opTo_q (d := 22) rfl rfl ev_move) ?_
          obtain ⟨v15, h16, hr⟩ := bind_some hr
          refine awpl_op rfl (opTo_call (k := 23) (R_At_run 10 s4 v15 h16) rfl rfl) ?_
          refine awpl_op rfl (opTo_store rfl rfl rfl ty_api_Fault rfl rfl) ?_
          refine awpl_nil ?_
          refine kthen_normal ?_
          refine awp_ret ?_
          refine kthen_ret ?_
          refine kblock_ret ?_
          refine kthen_ret ?_
          cases hr
          exact ⟨by simp, rfl, (frLe_cons rfl frLe_nil), (stoLe_cons rfl stoLe_nil)⟩
        · replace hr := cond_f c14 hr
          refine awp_skip ?_
          refine kthen_normal ?_
          refine awp_seq ?_
          refine awp_seq ?_
          refine awp_region ?_
          refine awpl_op rfl (opTo_q (d := 24) rfl rfl ev_move) ?_
          refine awpl_op rfl (opTo_q (d := 25) rfl rfl ev_move) ?_
          obtain ⟨v17, h18, hr⟩ := bind_some hr
          refine awpl_op rfl (opTo_q (d := 26) rfl rfl (ev_idx (f := TAlias.pc) rfl rfl ty_s_api_Alias ty_api_Alias rfl h18)) ?_
          refine awpl_op rfl (opTo_q (d := 27) rfl rfl (ev_fieldAddr_ep rfl ty_api_Alias.u rfl ty_s_string rfl rfl)) ?_
          refine awpl_op rfl (opTo_q (d := 28) rfl rfl (ev_load_ep rfl ty_s_string rfl rfl)) ?_
          refine awpl_op rfl (opTo_q (d := 29) rfl rfl (ev_llen (f := cS) rfl ty_s_string.u)) ?_
          obtain ⟨v19, h20, hr⟩ := bind_some hr
          refine awpl_op rfl (opTo_call (k := 30) (R_In_run ((v17.To.length : Int)) 1 60 v19 h20) rfl rfl) ?_
          refine awpl_op rfl (opTo_q (d := 31) rfl rfl (ev_not rfl)) ?_
          refine awpl_nil ?_
          refine kthen_normal ?_
          refine awp_cond rfl (fun c21 => ?_) (fun c21 => ?_)
          · replace hr := cond_t c21 hr
            refine awp_seq ?_
            refine awp_region ?_
            refine awpl_op rfl (opTo_q (d := 32) rfl rfl ev_move) ?_
            obtain ⟨v22, h23, hr⟩ := bind_some hr
            refine awpl_op rfl (opTo_call (k := 33) (R_At_run 2 s4 v22 h23) rfl rfl) ?_
            refine awpl_op rfl (opTo_store rfl rfl rfl ty_api_Fault rfl rfl) ?_
            refine awpl_nil ?_
            refine kthen_normal ?_
            refine awp_ret ?_
            refine kthen_ret ?_
            refine kblock_ret ?_
            refine kthen_ret ?_
            cases hr
            exact ⟨by simp, rfl, (frLe_cons rfl frLe_nil), (stoLe_cons rfl stoLe_nil)⟩
          · replace hr := cond_f c21 hr
            refine awp_skip ?_
            refine kthen_normal ?_
            refine awp_seq ?_
            refine awp_seq ?_
            refine awp_region ?_
            refine awpl_op rfl (opTo_q (d := 34) rfl rfl ev_move) ?_
            refine awpl_op rfl (opTo_q (d := 35) rfl rfl ev_move) ?_
            obtain ⟨v24, h25, hr⟩ := bind_some hr
            refine awpl_op rfl (opTo_q (d := 36) rfl rfl (ev_idx (f := TAlias.pc) rfl rfl ty_s_api_Alias ty_api_Alias rfl h25)) ?_
            refine awpl_op rfl (opTo_q (d := 37) rfl rfl (ev_fieldAddr_ep rfl ty_api_Alias.u rfl ty_s_string rfl rfl)) ?_
            refine awpl_op rfl (opTo_q (d := 38) rfl rfl (ev_load_ep rfl ty_s_string rfl rfl)) ?_
            obtain ⟨v26, h27, hr⟩ := bind_some hr
            refine awpl_op rfl (opTo_call (k := 39) (R_AddressesOk_run v24.To v26 h27) rfl rfl) ?_
            refine awpl_op rfl (opTo_q (d := 40) rfl rfl (ev_not rfl)) ?_
            refine awpl_nil ?_
            refine kthen_normal ?_
            refine awp_cond rfl (fun c28 => ?_) (fun c28 => ?_)
            · replace hr := cond_t c28 hr
              refine awp_seq ?_
              refine awp_region ?_
              refine awpl_op rfl (opTo_q (d := 41) rfl rfl ev_move) ?_
              obtain ⟨v29, h30, hr⟩ := bind_some hr
              refine awpl_op rfl (opTo_call (k := 42) (R_At_run 10 s4 v29 h30) rfl rfl) ?_
              refine awpl_op rfl (opTo_store rfl rfl rfl ty_api_Fault rfl rfl) ?_
              refine awpl_nil ?_
              refine kthen_normal ?_
              refine awp_ret ?_
              refine kthen_ret ?_
              refine kblock_ret ?_
              refine kthen_ret ?_
              cases hr
              exact ⟨by simp, rfl, (frLe_cons rfl frLe_nil), (stoLe_cons rfl stoLe_nil)⟩
            · replace hr := cond_f c28 hr
              refine awp_skip ?_
              refine kthen_normal ?_
              refine awp_seq ?_
              refine awp_region ?_
              refine awpl_op rfl (opTo_q (d := 4) rfl rfl ev_assign) ?_
              refine awpl_nil ?_
              refine kthen_normal ?_
              refine awp_block ?_
              obtain ⟨o34, hl, hr⟩ := bind_some hr
              refine awp_loop (R_AliasesFault_l2 a0 s4) (fun s31 => [(0, .l TAlias.pc a0), (2, .ptr 2 0), (3, .i s4), (4, .i s31)]) (fun s31 => [(2, .cells [.i 0, .i 0])]) (fun o => match o with | .inl b32 => At (.exit 2) [(0, .l TAlias.pc a0), (2, .ptr 2 0), (3, .i s4)] [(2, .cells [.i 0, .i 0])] | .inr b33 => At .ret [(2, .ptr 2 0)] [(2, .cells [.i b33.Code, .i b33.Index])]) ?_ 0 hl (frLe_cons rfl (frLe_cons rfl (frLe_cons rfl (frLe_cons rfl frLe_nil)))) (stoLe_cons rfl stoLe_nil) ?_
              · intro s31 x35 hr
                unfold R_AliasesFault_l2 at hr
                refine awp_seq ?_
                refine awp_seq ?_
                refine awp_region ?_
                refine awpl_op rfl (opTo_q (d := 43) rfl rfl ev_move) ?_
                refine awpl_op rfl (opTo_q (d := 44) rfl rfl ev_move) ?_
                refine awpl_op rfl (opTo_q (d := 45) rfl rfl (ev_lss rfl rfl)) ?_
                refine awpl_nil ?_
                refine kthen_normal ?_
                refine awp_cond rfl (fun c36 => ?_) (fun c36 => ?_)
                · replace hr := cond_t c36 hr
                  refine awp_skip ?_
                  refine kthen_normal ?_
                  refine awp_seq ?_
                  refine awp_block ?_
                  refine awp_seq ?_
                  obtain ⟨v37, h38, hr⟩ := bind_some hr
                  obtain ⟨v39, h40, hr⟩ := bind_some hr
                  refine awp_drawn 10 [(57, .s v39.Address), (56, .ep [pS v39.Address, pL cS v39.To]), (55, .ep [pS v39.Address, pL cS v39.To]), (54, .i s4), (53, .l TAlias.pc a0), (52, .s v37.Address), (51, .ep [pS v37.Address, pL cS v37.To]), (50, .ep [pS v37.Address, pL cS v37.To]), (49, .i s31), (48, .l TAlias.pc a0)] mixed (by kernel_rfl) rfl rfl (.run (.plain rfl) (opG_q ev_move) (.run (.plain rfl) (opG_q ev_move) (.run (.plain rfl) (opG_q (ev_idx (f := TAlias.pc) rfl rfl ty_s_api_Alias ty_api_Alias rfl h38)) (.run (.plain rfl) (opG_q (ev_fieldAddr_ep rfl ty_api_Alias.u rfl ty_string rfl rfl)) (.run (.plain rfl) (opG_q (ev_load_ep rfl ty_string rfl rfl)) (.run (.plain rfl) (opG_q ev_move) (.run (.plain rfl) (opG_q ev_move) (.run (.plain rfl) (opG_q (ev_idx (f := TAlias.pc) rfl rfl ty_s_api_Alias ty_api_Alias rfl h40)) (.run (.plain rfl) (opG_q (ev_fieldAddr_ep rfl ty_api_Alias.u rfl ty_string rfl rfl)) (.run (.plain rfl) (opG_q (ev_load_ep rfl ty_string rfl rfl)) .nil)))))))))) rfl ?_
                  refine awpl_op rfl (opTo_q (d := 58) rfl rfl (ev_seql (a := v37.Address) (b := v39.Address) rfl rfl)) ?_
                  refine awpl_nil ?_
                  refine kthen_normal ?_
                  refine awp_cond rfl (fun c41 => ?_) (fun c41 => ?_)
                  · replace hr := cond_t c41 hr
                    refine awp_seq ?_
                    refine awp_region ?_
                    refine awpl_op rfl (opTo_q (d := 59) rfl rfl ev_move) ?_
                    obtain ⟨v42, h43, hr⟩ := bind_some hr
                    refine awpl_op rfl (opTo_call (k := 60) (R_At_run 7 s4 v42 h43) rfl rfl) ?_
                    refine awpl_op rfl (opTo_store rfl rfl rfl ty_api_Fault rfl rfl) ?_
                    refine awpl_nil ?_
                    refine kthen_normal ?_
                    refine awp_ret ?_
                    refine kblock_ret ?_
                    refine kthen_ret ?_
                    cases hr
                    exact ⟨by simp, rfl, (frLe_cons rfl frLe_nil), (stoLe_cons rfl stoLe_nil)⟩
                  · replace hr := cond_f c41 hr
                    refine awp_skip ?_
                    refine kblock_normal ?_
                    refine kthen_normal ?_
                    refine awp_region ?_
                    refine awpl_op rfl (opTo_q (d := 46) rfl rfl ev_move) ?_
                    refine awpl_op rfl (opTo_q (d := 47) rfl rfl (ev_add rfl rfl)) ?_
                    refine awpl_op rfl (opTo_q (d := 4) rfl rfl ev_assign) ?_
                    refine awpl_nil ?_
                    cases hr
                    exact ⟨rfl, (frLe_cons rfl (frLe_cons rfl (frLe_cons rfl (frLe_cons rfl frLe_nil)))), (stoLe_cons rfl stoLe_nil)⟩
                · replace hr := cond_f c36 hr
                  refine awp_exit ?_
                  refine kthen_exit ?_
                  cases hr
                  exact ⟨by simp, rfl, (frLe_cons rfl (frLe_cons rfl (frLe_cons rfl frLe_nil))), (stoLe_cons rfl stoLe_nil)⟩
              · intro e fr2 st2 hq
                rcases o34 with b32 | b33
                · obtain ⟨rfl, hf, hs⟩ := hq
                  refine kblock_exit ?_
                  refine kblock_normal ?_
                  refine kthen_normal ?_
                  refine awp_le hf hs ?_
                  refine awp_region ?_
                  refine awpl_op rfl (opTo_q (d := 13) rfl rfl ev_move) ?_
                  refine awpl_op rfl (opTo_q (d := 14) rfl rfl (ev_add rfl rfl)) ?_
                  refine awpl_op rfl (opTo_q (d := 3) rfl rfl ev_assign) ?_
                  refine awpl_nil ?_
                  cases hr
                  exact ⟨rfl, (frLe_cons rfl (frLe_cons rfl (frLe_cons rfl frLe_nil))), (stoLe_cons rfl stoLe_nil)⟩
                · obtain ⟨rfl, hf, hs⟩ := hq
                  refine kblock_ret ?_
                  refine kblock_ret ?_
                  refine kthen_ret ?_
                  cases hr
                  exact ⟨by simp, rfl, (frLe_trans hf (frLe_cons rfl frLe_nil)), (stoLe_trans hs (stoLe_cons rfl stoLe_nil))⟩
      · replace hr := cond_f c9 hr
        refine awp_exit ?_
        refine kthen_exit ?_
        cases hr
        exact ⟨by simp, rfl, (frLe_cons rfl frLe_nil), (stoLe_cons rfl stoLe_nil)⟩
    · intro e fr2 st2 hq
      rcases o7 with b5 | b6
      · obtain ⟨rfl, hf, hs⟩ := hq
        refine kblock_exit ?_
        refine kthen_normal ?_
        refine awp_le hf hs ?_
        refine awp_seq ?_
        refine awp_region ?_
        refine awpl_op rfl (opTo_q (d := 61) rfl rfl (ev_build ty_api_Fault pl_api_Fault (.inr ⟨rfl, rfl⟩) rfl)) ?_
        refine awpl_op rfl (opTo_store rfl rfl rfl ty_api_Fault rfl rfl) ?_
        refine awpl_nil ?_
        refine kthen_normal ?_
        refine awp_ret ?_
        cases hr
        exact kret' rfl (.cons (res_cellN rfl rfl ty_api_Fault rfl rfl) .nil) rfl
      · obtain ⟨rfl, hf, hs⟩ := hq
        refine kblock_ret ?_
        refine kthen_ret ?_
        cases hr
        exact kret' rfl (.cons (res1_le hf hs (res_cellN rfl rfl ty_api_Fault rfl rfl)) .nil) rfl
theorem R_asAliases_run (a0 : List TForward) (r : List TAlias) (hr : R_asAliases a0 = some r) : Run Tryz.prog 17 [.l TForward.pc a0] (.l TAlias.pc r) := by
 unfold R_asAliases at hr
 refine rf (fn := Tryz.f17) ⟨Tryz.func17, rfl, by kernel_rfl⟩ rfl (fun _ => rfl) fun g0 hg => ?_
 refine rn tk 8 rfl ?_
 refine awpl_adopt 1003 (d := 3) 79 2 rfl rfl rfl (hO ?_)
 refine rn tk 9 rfl ?_
 refine al1 hr (fun s1 => [(0, .l TForward.pc a0), (3, .hs 1003 0), (4, .i s1.1)]) (fun s1 => [(1003, .row 79 false 2 (List.map TAlias.pc s1.2))]) (.exit 0) (fun b2 => [(3, .hs 1003 0)]) (fun b2 => [(1003, .row 79 false 2 (List.map TAlias.pc b2))]) rfl rfl (fun s1 x3 hr => ?_) (fun b2 hr => ?_)
 ·
  unfold R_asAliases_l1 at hr
  refine rn tk 5 rfl ?_
  refine wn tk rfl rfl rfl ?_
  refine rn tk 3 rfl ?_
  refine ac 8 hr rfl (fun c4 hr => ?_) (fun c4 hr => ?_)
  ·
   refine rn tk 4 rfl ?_
   obtain ⟨v5, h6, hr⟩ := bind_some hr
   obtain ⟨v7, h8, hr⟩ := bind_some hr
   refine dr 13 [(23, .l TAlias.pc (([(TAlias.mk v5.Address v7.To)] : List TAlias))), (22, .agg [.s v5.Address, .l cS v7.To]), (21, .l cS v7.To), (20, .ep [pL cS v7.To, pB v7.Keep]), (19, .ep [pS v7.Address, pL cS v7.To, pB v7.Keep]), (18, .i s1.1), (17, .l TForward.pc a0), (16, .s v5.Address), (15, .ep [pS v5.Address, pL cS v5.To, pB v5.Keep]), (14, .ep [pS v5.Address, pL cS v5.To, pB v5.Keep]), (13, .i s1.1), (12, .l TForward.pc a0), (11, .hs 1003 0)] mixed (by kernel_rfl) rfl rfl (pq tk rfl (.plain rfl) (pq tk rfl (.plain rfl) (pq tk rfl (.plain rfl) (.run (.plain rfl) (opG_q (ev_idx (f := TForward.pc) rfl rfl ty_s_api_Forward ty_api_Forward rfl h6)) (pq tk rfl (.plain rfl) (pq tk rfl (.plain rfl) (pq tk rfl (.plain rfl) (pq tk rfl (.plain rfl) (.run (.plain rfl) (opG_q (ev_idx (f := TForward.pc) rfl rfl ty_s_api_Forward ty_api_Forward rfl h8)) (pq tk rfl (.plain rfl) (pq tk rfl (.plain rfl) (pq tk rfl (.plain rfl) (.run (.plain rfl) (opG_lit (F := TAlias.pc) (l := ([(TAlias.mk v5.Address v7.To)] : List TAlias)) ty_s_api_Alias ty_api_Alias rfl (fun _ => rfl) rfl rfl) .nil))))))))))))) rfl ?_
   obtain ⟨v9, h10, hr⟩ := bind_some hr
   refine wa tk h10 rfl rfl rfl rfl (fun _ => rfl) rfl rfl ?_
   refine rn tk 9 rfl ?_
   cases hr
   exact atc rfl rfl
  ·
   refine rn tk 2 rfl ?_
   cases hr
   exact ato rfl rfl rfl rfl
 ·
  refine rn tk 8 rfl ?_
  refine awp_pub (d := 2) (F := TAlias.pc) (l := b2) rfl rfl (hC ?_)
  refine rn tk 1 rfl ?_
  cases hr
  exact kr tk (.inr rfl) rfl rfl
theorem R_ForwardsFault_run (a0 : List TForward) (r : TFault) (hr : R_ForwardsFault a0 = some r) : Run Tryz.prog 5 [.l TForward.pc a0] (.agg [.i r.Code, .i r.Index]) := by
 unfold R_ForwardsFault at hr
 refine rf (fn := Tryz.f5) ⟨Tryz.func5, rfl, by kernel_rfl⟩ rfl (fun _ => rfl) fun g0 hg => ?_
 refine rn tk 8 rfl ?_
 obtain ⟨v1, h2, hr⟩ := bind_some hr
 refine cl (R_asAliases_run _ _ h2) rfl rfl ?_
 obtain ⟨v3, h4, hr⟩ := bind_some hr
 refine cl (R_AliasesFault_run _ _ h4) rfl rfl ?_
 refine rn tk 4 rfl ?_
 cases hr
 exact kr tk (.inr rfl) rfl rfl
theorem R_Fronted_run (a0 : TMessage) (a1 : Str) (a2 : Str) (r : TMessage) (hr : R_Fronted a0 a1 a2 = some r) : Run Tryz.prog 42 [.agg [.l TField.pc a0.Fields, .l cU a0.Body], .s a1, .s a2] (.agg [.l TField.pc r.Fields, .l cU r.Body]) := by
 unfold R_Fronted at hr
 refine rf (fn := Tryz.f42) ⟨Tryz.func42, rfl, by kernel_rfl⟩ rfl (fun _ => rfl) fun g0 hg => ?_
 refine rn tk 12 rfl ?_
 refine awpl_adoptC 1007 (o := 7) (j := 0) 62 2 rfl rfl rfl rfl (hO ?_)
 refine rn tk 1 rfl ?_
 refine awpl_adoptC 2007 (o := 7) (j := 0) 62 2 rfl rfl rfl rfl (hO ?_)
 refine rn tk 9 rfl ?_
 refine wz TField.pc ([(TField.mk a1 a2)] : List TField) tk rfl rfl (fun _ => rfl) rfl rfl rfl ?_
 obtain ⟨v1, h2, hr⟩ := bind_some hr
 refine wa tk h2 rfl rfl rfl rfl (fun _ => rfl) rfl rfl ?_
 refine rn tk 10 rfl ?_
 obtain ⟨v3, h4, hr⟩ := bind_some hr
 refine wa tk h4 rfl rfl rfl rfl (fun _ => rfl) rfl rfl ?_
 refine rn tk 10 rfl ?_
 refine awp_pubC (o := 6) (j := 0) (F := TField.pc) (l := v3) rfl rfl rfl (hC ?_)
 refine rn tk 1 rfl ?_
 cases hr
 exact kr tk (.inr rfl) rfl rfl
theorem R_Has_run (a0 : List Str) (a1 : Str) (r : Bool) (hr : R_Has a0 a1 = some r) : Run Tryz.prog 39 [.l cS a0, .s a1] (.bo r) := by
 unfold R_Has at hr
 refine rf (fn := Tryz.f39) ⟨Tryz.func39, rfl, by kernel_rfl⟩ rfl (fun _ => rfl) fun g0 hg => ?_
 refine rn tk 12 rfl ?_
 refine al2 hr (fun s1 => [(0, .l cS a0), (1, .s a1), (5, .i s1)]) (fun s1 => []) (.exit 0) (fun b2 => []) (fun b2 => []) .ret (fun b3 => [(4, .bo b3)]) (fun b3 => []) rfl rfl (fun s1 x5 hr => ?_) (fun b2 hr => ?_) (fun b3 hr => ?_)
 ·
  unfold R_Has_l1 at hr
  refine rn tk 5 rfl ?_
  refine wn tk rfl rfl rfl ?_
  refine rn tk 3 rfl ?_
  refine ac 9 hr rfl (fun c6 hr => ?_) (fun c6 hr => ?_)
  ·
   refine rn tk 8 rfl ?_
   obtain ⟨v7, h8, hr⟩ := bind_some hr
   refine wi tk h8 rfl rfl rfl rfl rfl ?_
   refine rn tk 5 rfl ?_
   refine ac 17 hr rfl (fun c9 hr => ?_) (fun c9 hr => ?_)
   ·
    refine rn tk 8 rfl ?_
    cases hr
    exact ato rfl rfl rfl rfl
   ·
    refine rn tk 8 rfl ?_
    cases hr
    exact atc rfl rfl
  ·
   refine rn tk 2 rfl ?_
   cases hr
   exact ato rfl rfl rfl rfl
 ·
  refine rn tk 8 rfl ?_
  cases hr
  exact kr tk (.inr rfl) rfl rfl
 ·
  refine rn tk 2 rfl ?_
  cases hr
  exact kr tk (.inr rfl) rfl rfl
theorem R_Known_run (a0 : List TRecipient) (a1 : Str) (r : Int) (hr : R_Known a0 a1 = some r) : Run Tryz.prog 69 [.l TRecipient.pc a0, .s a1] (.i r) := by
 unfold R_Known at hr
 refine rf (fn := Tryz.f69) ⟨Tryz.func69, rfl, by kernel_rfl⟩ rfl (fun _ => rfl) fun g0 hg => ?_
 refine rn tk 12 rfl ?_
 refine al2 hr (fun s1 => [(0, .l TRecipient.pc a0), (1, .s a1), (5, .i s1)]) (fun s1 => []) (.exit 0) (fun b2 => []) (fun b2 => []) .ret (fun b3 => [(4, .i b3)]) (fun b3 => []) rfl rfl (fun s1 x5 hr => ?_) (fun b2 hr => ?_) (fun b3 hr => ?_)
 ·
  unfold R_Known_l1 at hr
  refine rn tk 5 rfl ?_
  refine wn tk rfl rfl rfl ?_
  refine rn tk 3 rfl ?_
  refine ac 9 hr rfl (fun c6 hr => ?_) (fun c6 hr => ?_)
  ·
   refine rn tk 8 rfl ?_
   obtain ⟨v7, h8, hr⟩ := bind_some hr
   refine wi tk h8 rfl rfl rfl rfl rfl ?_
   refine rn tk 6 rfl ?_
   refine ac 18 hr rfl (fun c9 hr => ?_) (fun c9 hr => ?_)
   ·
    refine rn tk 9 rfl ?_
    cases hr
    exact ato rfl rfl rfl rfl
   ·
    refine rn tk 8 rfl ?_
    cases hr
    exact atc rfl rfl
  ·
   refine rn tk 2 rfl ?_
   cases hr
   exact ato rfl rfl rfl rfl
 ·
  refine rn tk 8 rfl ?_
  cases hr
  exact kr tk (.inr rfl) rfl rfl
 ·
  refine rn tk 2 rfl ?_
  cases hr
  exact kr tk (.inr rfl) rfl rfl
theorem R_NameOk_run (a0 : Str) (r : Bool) (hr : R_NameOk a0 = some r) : Run Tryz.prog 90 [.s a0] (.bo r) := by
 unfold R_NameOk at hr
 refine rf (fn := Tryz.f90) ⟨Tryz.func90, rfl, by kernel_rfl⟩ rfl (fun _ => rfl) fun g0 hg => ?_
 refine rn tk 12 rfl ?_
 refine al2 hr (fun s1 => [(0, .s a0), (3, .i s1)]) (fun s1 => []) (.exit 0) (fun b2 => [(0, .s a0)]) (fun b2 => []) .ret (fun b3 => [(2, .bo b3)]) (fun b3 => []) rfl rfl (fun s1 x5 hr => ?_) (fun b2 hr => ?_) (fun b3 hr => ?_)
 ·
  unfold R_NameOk_l1 at hr
  refine rn tk 9 rfl ?_
  refine ac 7 hr rfl (fun c6 hr => ?_) (fun c6 hr => ?_)
  ·
   refine rn tk 4 rfl ?_
   refine jb hr (fun j7 => [(0, .s a0), (3, .i s1), (32, .bo j7)]) (fun j7 => []) (fun j7 hr => ?_) (fun j7 hr => ?_)
   ·
    refine rn tk 3 rfl ?_
    obtain ⟨v8, h9, hr⟩ := bind_some hr
    refine ws tk h9 rfl rfl rfl rfl ?_
    obtain ⟨v10, h11, hr⟩ := bind_some hr
    refine cl (R_letterOrDigit_run _ _ h11) rfl rfl ?_
    refine rn tk 2 rfl ?_
    refine bs 15 hr rfl (fun c12 hr => ?_) (fun c12 hr => ?_)
    ·
     refine rn tk 2 rfl ?_
     obtain ⟨v13, h14, hr⟩ := bind_some hr
     refine ug rfl rfl rfl ?_
     refine ws tk h14 rfl rfl rfl rfl ?_
     refine rn tk 3 rfl ?_
     refine bs 21 hr rfl (fun c15 hr => ?_) (fun c15 hr => ?_)
     ·
      refine rn tk 2 rfl ?_
      obtain ⟨v16, h17, hr⟩ := bind_some hr
      refine ug rfl rfl rfl ?_
      refine ws tk h17 rfl rfl rfl rfl ?_
      refine rn tk 3 rfl ?_
      refine bs 27 hr rfl (fun c18 hr => ?_) (fun c18 hr => ?_)
      ·
       refine rn tk 2 rfl ?_
       obtain ⟨v19, h20, hr⟩ := bind_some hr
       refine ug rfl rfl rfl ?_
       refine ws tk h20 rfl rfl rfl rfl ?_
       refine rn tk 3 rfl ?_
       cases hr
       exact jn _ rfl rfl rfl
      ·
       refine rn tk 6 rfl ?_
       cases hr
       exact jn _ rfl rfl rfl
     ·
      refine rn tk 12 rfl ?_
      cases hr
      exact jn _ rfl rfl rfl
    ·
     refine rn tk 18 rfl ?_
     cases hr
     exact jn _ rfl rfl rfl
   ·
    refine ac 32 hr rfl (fun c21 hr => ?_) (fun c21 hr => ?_)
    ·
     refine rn tk 8 rfl ?_
     cases hr
     exact ato rfl rfl rfl rfl
    ·
     refine rn tk 8 rfl ?_
     cases hr
     exact atc rfl rfl
  ·
   refine rn tk 2 rfl ?_
   cases hr
   exact ato rfl rfl rfl rfl
 ·
  refine rn tk 6 rfl ?_
  obtain ⟨v22, h23, hr⟩ := bind_some hr
  refine cl (R_In_run _ _ _ _ h23) rfl rfl ?_
  refine rn tk 4 rfl ?_
  cases hr
  exact kr tk (.inr rfl) rfl rfl
 ·
  refine rn tk 2 rfl ?_
  cases hr
  exact kr tk (.inr rfl) rfl rfl
theorem R_EnvelopeFault_run (a0 : TEnvelope) (r : TFault) (hr : R_EnvelopeFault a0 = some r) : Run Tryz.prog 67 [.agg [.s a0.From, .l TRecipient.pc a0.To, .s a0.Id]] (.agg [.i r.Code, .i r.Index]) := by
 unfold R_EnvelopeFault at hr
 refine rf (fn := Tryz.f67) ⟨Tryz.func67, rfl, by kernel_rfl⟩ rfl (fun _ => rfl) fun g0 hg => ?_
 refine rn tk 7 rfl ?_
 refine jb hr (fun j1 => [(1, .ptr 1 0), (2, .ptr 2 0), (12, .bo j1)]) (fun j1 => [(2, .cells [.i 0, .i 0]), (1, .cells [.s a0.From, .l TRecipient.pc a0.To, .s a0.Id])]) (fun j1 hr => ?_) (fun j1 hr => ?_)
 ·
  refine rn tk 5 rfl ?_
  refine bs 7 hr rfl (fun c2 hr => ?_) (fun c2 hr => ?_)
  ·
   refine rn tk 2 rfl ?_
   obtain ⟨v3, h4, hr⟩ := bind_some hr
   refine ug rfl rfl rfl ?_
   refine cl (R_AddressOk_run _ _ h4) rfl rfl ?_
   refine rn tk 3 rfl ?_
   cases hr
   exact jn _ rfl rfl rfl
  ·
   refine rn tk 6 rfl ?_
   cases hr
   exact jn _ rfl rfl rfl
 ·
  refine ac 12 hr rfl (fun c5 hr => ?_) (fun c5 hr => ?_)
  ·
   refine rn tk 2 rfl ?_
   obtain ⟨v6, h7, hr⟩ := bind_some hr
   refine cl (R_At_run _ _ _ h7) rfl rfl ?_
   refine rn tk 5 rfl ?_
   cases hr
   exact kr tk (.inr rfl) rfl rfl
  ·
   refine rn tk 7 rfl ?_
   refine wn tk rfl rfl rfl ?_
   obtain ⟨v8, h9, hr⟩ := bind_some hr
   refine cl (R_In_run _ _ _ _ h9) rfl rfl ?_
   refine rn tk 3 rfl ?_
   refine ac 18 hr rfl (fun c10 hr => ?_) (fun c10 hr => ?_)
   ·
    refine rn tk 2 rfl ?_
    obtain ⟨v11, h12, hr⟩ := bind_some hr
    refine cl (R_At_run _ _ _ h12) rfl rfl ?_
    refine rn tk 5 rfl ?_
    cases hr
    exact kr tk (.inr rfl) rfl rfl
   ·
    refine rn tk 3 rfl ?_
    refine jb hr (fun j13 => [(1, .ptr 1 0), (2, .ptr 2 0), (28, .bo j13)]) (fun j13 => [(2, .cells [.i 0, .i 0]), (1, .cells [.s a0.From, .l TRecipient.pc a0.To, .s a0.Id])]) (fun j13 hr => ?_) (fun j13 hr => ?_)
    ·
     refine rn tk 5 rfl ?_
     refine bs 23 hr rfl (fun c14 hr => ?_) (fun c14 hr => ?_)
     ·
      refine rn tk 2 rfl ?_
      obtain ⟨v15, h16, hr⟩ := bind_some hr
      refine ug rfl rfl rfl ?_
      refine cl (R_NameOk_run _ _ h16) rfl rfl ?_
      refine rn tk 3 rfl ?_
      cases hr
      exact jn _ rfl rfl rfl
     ·
      refine rn tk 6 rfl ?_
      cases hr
      exact jn _ rfl rfl rfl
    ·
     refine ac 28 hr rfl (fun c17 hr => ?_) (fun c17 hr => ?_)
     ·
      refine rn tk 2 rfl ?_
      obtain ⟨v18, h19, hr⟩ := bind_some hr
      refine cl (R_At_run _ _ _ h19) rfl rfl ?_
      refine rn tk 5 rfl ?_
      cases hr
      exact kr tk (.inr rfl) rfl rfl
     ·
      refine rn tk 9 rfl ?_
      refine al2 hr (fun s20 => [(1, .ptr 1 0), (2, .ptr 2 0), (3, .i s20)]) (fun s20 => [(2, .cells [.i 0, .i 0]), (1, .cells [.s a0.From, .l TRecipient.pc a0.To, .s a0.Id])]) (.exit 0) (fun b21 => [(2, .ptr 2 0)]) (fun b21 => [(2, .cells [.i 0, .i 0])]) .ret (fun b22 => [(2, .ptr 2 0)]) (fun b22 => [(2, .cells [.i b22.Code, .i b22.Index])]) rfl rfl (fun s20 x24 hr => ?_) (fun b21 hr => ?_) (fun b22 hr => ?_)
      ·
       unfold R_EnvelopeFault_l1 at hr
       refine rn tk 6 rfl ?_
       refine wn tk rfl rfl rfl ?_
       refine rn tk 3 rfl ?_
       refine ac 34 hr rfl (fun c25 hr => ?_) (fun c25 hr => ?_)
       ·
        refine rn tk 10 rfl ?_
        obtain ⟨v26, h27, hr⟩ := bind_some hr
        refine wi tk h27 rfl rfl rfl rfl rfl ?_
        refine rn tk 2 rfl ?_
        obtain ⟨v28, h29, hr⟩ := bind_some hr
        refine cl (R_AddressOk_run _ _ h29) rfl rfl ?_
        refine rn tk 3 rfl ?_
        refine ac 44 hr rfl (fun c30 hr => ?_) (fun c30 hr => ?_)
        ·
         refine rn tk 3 rfl ?_
         obtain ⟨v31, h32, hr⟩ := bind_some hr
         refine cl (R_At_run _ _ _ h32) rfl rfl ?_
         refine rn tk 7 rfl ?_
         cases hr
         exact ato rfl rfl rfl rfl
        ·
         refine rn tk 8 rfl ?_
         obtain ⟨v33, h34, hr⟩ := bind_some hr
         refine wi tk h34 rfl rfl rfl rfl rfl ?_
         refine rn tk 2 rfl ?_
         obtain ⟨v35, h36, hr⟩ := bind_some hr
         refine cl (R_In_run _ _ _ _ h36) rfl rfl ?_
         refine rn tk 3 rfl ?_
         refine ac 54 hr rfl (fun c37 hr => ?_) (fun c37 hr => ?_)
         ·
          refine rn tk 3 rfl ?_
          obtain ⟨v38, h39, hr⟩ := bind_some hr
          refine cl (R_At_run _ _ _ h39) rfl rfl ?_
          refine rn tk 7 rfl ?_
          cases hr
          exact ato rfl rfl rfl rfl
         ·
          refine rn tk 3 rfl ?_
          obtain ⟨v40, h41, hr⟩ := bind_some hr
          obtain ⟨v42, h43, hr⟩ := bind_some hr
          refine dr 10 [(66, .s v42.Address), (65, .ep [pS v42.Address, pI v42.Notify]), (64, .ep [pS v42.Address, pI v42.Notify]), (63, .i s20), (62, .l TRecipient.pc a0.To), (61, .ptr 1 1), (60, .l TRecipient.pc v40), (59, .i s20), (58, .l TRecipient.pc a0.To), (57, .ptr 1 1)] mixed (by kernel_rfl) rfl rfl (pq tk rfl (.plain rfl) (pq tk rfl (.plain rfl) (pq tk rfl (.plain rfl) (.run (.plain rfl) (opG_q (ev_cutH (F := TRecipient.pc) rfl rfl ty_s_api_Recipient ty_api_Recipient (fun _ => rfl) h41)) (pq tk rfl (.plain rfl) (pq tk rfl (.plain rfl) (pq tk rfl (.plain rfl) (.run (.plain rfl) (opG_q (ev_idx (f := TRecipient.pc) rfl rfl ty_s_api_Recipient ty_api_Recipient rfl h43)) (pq tk rfl (.plain rfl) (pq tk rfl (.plain rfl) .nil)))))))))) rfl ?_
          obtain ⟨v44, h45, hr⟩ := bind_some hr
          refine cl (R_Known_run _ _ _ h45) rfl rfl ?_
          refine rn tk 3 rfl ?_
          refine ac 68 hr rfl (fun c46 hr => ?_) (fun c46 hr => ?_)
          ·
           refine rn tk 3 rfl ?_
           obtain ⟨v47, h48, hr⟩ := bind_some hr
           refine cl (R_At_run _ _ _ h48) rfl rfl ?_
           refine rn tk 6 rfl ?_
           cases hr
           exact ato rfl rfl rfl rfl
          ·
           refine rn tk 8 rfl ?_
           cases hr
           exact atc rfl rfl
       ·
        refine rn tk 2 rfl ?_
        cases hr
        exact ato rfl rfl rfl rfl
      ·
       refine rn tk 9 rfl ?_
       cases hr
       exact kr tk (.inr rfl) rfl rfl
      ·
       refine rn tk 2 rfl ?_
       cases hr
       exact kr tk (.inr rfl) rfl rfl
theorem R_blank_run (a0 : UInt8) (r : Bool) (hr : R_blank a0 = some r) : Run Tryz.prog 92 [.u8 a0] (.bo r) := by
 unfold R_blank at hr
 refine rf (fn := Tryz.f92) ⟨Tryz.func92, rfl, by kernel_rfl⟩ rfl (fun _ => rfl) fun g0 hg => ?_
 refine rn tk 5 rfl ?_
 refine jb hr (fun j1 => [(2, .bo j1)]) (fun j1 => []) (fun j1 hr => ?_) (fun j1 hr => ?_)
 ·
  refine rn tk 4 rfl ?_
  refine bs 5 hr rfl (fun c2 hr => ?_) (fun c2 hr => ?_)
  ·
   refine rn tk 5 rfl ?_
   cases hr
   exact jn _ rfl rfl rfl
  ·
   refine rn tk 5 rfl ?_
   cases hr
   exact jn _ rfl rfl rfl
 ·
  refine rn tk 1 rfl ?_
  cases hr
  exact kr tk (.inr rfl) rfl rfl
end Go.Proofs.YtfhfjckjmacekaaGreat
