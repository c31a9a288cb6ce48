/- The law TraceMatchesSpec holds for every input of bulk up to the given bound: it returns true and leaves its arguments as they were. Written by program. -/
import Derived.Test.YtpbanomkkkongaaGreatDoorKTraceMatchesSpec2
set_option linter.unusedVariables false
set_option linter.unusedSimpArgs false
namespace Go.Proofs.YtpbanomkkkongaaGreatDoor
open Go.RowKit
set_option maxRecDepth 100000
set_option maxHeartbeats 40000000
set_option linter.unusedVariables false
private theorem R_Digits_r0_run (a0 : Int) (r : Str) (hr : R_Digits_r0 a0 = some r) : Run Tryz.prog 75 [.i a0] (.s r) := by
 unfold R_Digits_r0 at hr
 refine rf (fn := Tryz.f75) ⟨Tryz.func75, rfl, by kernel_rfl⟩ rfl (fun _ => rfl) fun g0 hg => ?_
 refine rn tk 12 rfl ?_
 refine ac 4 hr rfl (fun c1 hr => ?_) (fun c1 hr => ?_)
 ·
  refine rn tk 5 rfl ?_
  obtain ⟨v2, h3, hr⟩ := bind_some hr
  refine wscLH tk h3 rfl rfl rfl rfl rfl ?_
  refine rn tk 5 rfl ?_
  cases hr
  exact kr tk (.inr rfl) rfl rfl
 ·
  refine rn tk 5 rfl ?_
  refine wq (ev_iquo rfl rfl rfl) rfl rfl rfl ?_
  cases hr
private theorem R_Digits_r1_run (a0 : Int) (r : Str) (hr : R_Digits_r1 a0 = some r) : Run Tryz.prog 75 [.i a0] (.s r) := by
 unfold R_Digits_r1 at hr
 refine rf (fn := Tryz.f75) ⟨Tryz.func75, rfl, by kernel_rfl⟩ rfl (fun _ => rfl) fun g0 hg => ?_
 refine rn tk 12 rfl ?_
 refine ac 4 hr rfl (fun c1 hr => ?_) (fun c1 hr => ?_)
 ·
  refine rn tk 5 rfl ?_
  obtain ⟨v2, h3, hr⟩ := bind_some hr
  refine wscLH tk h3 rfl rfl rfl rfl rfl ?_
  refine rn tk 5 rfl ?_
  cases hr
  exact kr tk (.inr rfl) rfl rfl
 ·
  refine rn tk 5 rfl ?_
  refine wq (ev_iquo rfl rfl rfl) rfl rfl rfl ?_
  obtain ⟨v4, h5, hr⟩ := bind_some hr
  refine cl (R_Digits_r0_run _ _ h5) rfl rfl ?_
  refine rn tk 1 rfl ?_
  refine wq (ev_irem rfl rfl rfl) rfl rfl rfl ?_
  obtain ⟨v6, h7, hr⟩ := bind_some hr
  refine cl (R_Digits_r0_run _ _ h7) rfl rfl ?_
  obtain ⟨v8, h9, hr⟩ := bind_some hr
  refine wc h9 rfl rfl rfl ?_
  refine rn tk 4 rfl ?_
  cases hr
  exact kr tk (.inr rfl) rfl rfl
private theorem R_Digits_r2_run (a0 : Int) (r : Str) (hr : R_Digits_r2 a0 = some r) : Run Tryz.prog 75 [.i a0] (.s r) := by
 unfold R_Digits_r2 at hr
 refine rf (fn := Tryz.f75) ⟨Tryz.func75, rfl, by kernel_rfl⟩ rfl (fun _ => rfl) fun g0 hg => ?_
 refine rn tk 12 rfl ?_
 refine ac 4 hr rfl (fun c1 hr => ?_) (fun c1 hr => ?_)
 ·
  refine rn tk 5 rfl ?_
  obtain ⟨v2, h3, hr⟩ := bind_some hr
  refine wscLH tk h3 rfl rfl rfl rfl rfl ?_
  refine rn tk 5 rfl ?_
  cases hr
  exact kr tk (.inr rfl) rfl rfl
 ·
  refine rn tk 5 rfl ?_
  refine wq (ev_iquo rfl rfl rfl) rfl rfl rfl ?_
  obtain ⟨v4, h5, hr⟩ := bind_some hr
  refine cl (R_Digits_r1_run _ _ h5) rfl rfl ?_
  refine rn tk 1 rfl ?_
  refine wq (ev_irem rfl rfl rfl) rfl rfl rfl ?_
  obtain ⟨v6, h7, hr⟩ := bind_some hr
  refine cl (R_Digits_r1_run _ _ h7) rfl rfl ?_
  obtain ⟨v8, h9, hr⟩ := bind_some hr
  refine wc h9 rfl rfl rfl ?_
  refine rn tk 4 rfl ?_
  cases hr
  exact kr tk (.inr rfl) rfl rfl
private theorem R_Digits_r3_run (a0 : Int) (r : Str) (hr : R_Digits_r3 a0 = some r) : Run Tryz.prog 75 [.i a0] (.s r) := by
 unfold R_Digits_r3 at hr
 refine rf (fn := Tryz.f75) ⟨Tryz.func75, rfl, by kernel_rfl⟩ rfl (fun _ => rfl) fun g0 hg => ?_
 refine rn tk 12 rfl ?_
 refine ac 4 hr rfl (fun c1 hr => ?_) (fun c1 hr => ?_)
 ·
  refine rn tk 5 rfl ?_
  obtain ⟨v2, h3, hr⟩ := bind_some hr
  refine wscLH tk h3 rfl rfl rfl rfl rfl ?_
  refine rn tk 5 rfl ?_
  cases hr
  exact kr tk (.inr rfl) rfl rfl
 ·
  refine rn tk 5 rfl ?_
  refine wq (ev_iquo rfl rfl rfl) rfl rfl rfl ?_
  obtain ⟨v4, h5, hr⟩ := bind_some hr
  refine cl (R_Digits_r2_run _ _ h5) rfl rfl ?_
  refine rn tk 1 rfl ?_
  refine wq (ev_irem rfl rfl rfl) rfl rfl rfl ?_
  obtain ⟨v6, h7, hr⟩ := bind_some hr
  refine cl (R_Digits_r2_run _ _ h7) rfl rfl ?_
  obtain ⟨v8, h9, hr⟩ := bind_some hr
  refine wc h9 rfl rfl rfl ?_
  refine rn tk 4 rfl ?_
  cases hr
  exact kr tk (.inr rfl) rfl rfl
private theorem R_Digits_r4_run (a0 : Int) (r : Str) (hr : R_Digits_r4 a0 = some r) : Run Tryz.prog 75 [.i a0] (.s r) := by
 unfold R_Digits_r4 at hr
 refine rf (fn := Tryz.f75) ⟨Tryz.func75, rfl, by kernel_rfl⟩ rfl (fun _ => rfl) fun g0 hg => ?_
 refine rn tk 12 rfl ?_
 refine ac 4 hr rfl (fun c1 hr => ?_) (fun c1 hr => ?_)
 ·
  refine rn tk 5 rfl ?_
  obtain ⟨v2, h3, hr⟩ := bind_some hr
  refine wscLH tk h3 rfl rfl rfl rfl rfl ?_
  refine rn tk 5 rfl ?_
  cases hr
  exact kr tk (.inr rfl) rfl rfl
 ·
  refine rn tk 5 rfl ?_
  refine wq (ev_iquo rfl rfl rfl) rfl rfl rfl ?_
  obtain ⟨v4, h5, hr⟩ := bind_some hr
  refine cl (R_Digits_r3_run _ _ h5) rfl rfl ?_
  refine rn tk 1 rfl ?_
  refine wq (ev_irem rfl rfl rfl) rfl rfl rfl ?_
  obtain ⟨v6, h7, hr⟩ := bind_some hr
  refine cl (R_Digits_r3_run _ _ h7) rfl rfl ?_
  obtain ⟨v8, h9, hr⟩ := bind_some hr
  refine wc h9 rfl rfl rfl ?_
  refine rn tk 4 rfl ?_
  cases hr
  exact kr tk (.inr rfl) rfl rfl
private theorem R_Digits_r5_run (a0 : Int) (r : Str) (hr : R_Digits_r5 a0 = some r) : Run Tryz.prog 75 [.i a0] (.s r) := by
 unfold R_Digits_r5 at hr
 refine rf (fn := Tryz.f75) ⟨Tryz.func75, rfl, by kernel_rfl⟩ rfl (fun _ => rfl) fun g0 hg => ?_
 refine rn tk 12 rfl ?_
 refine ac 4 hr rfl (fun c1 hr => ?_) (fun c1 hr => ?_)
 ·
  refine rn tk 5 rfl ?_
  obtain ⟨v2, h3, hr⟩ := bind_some hr
  refine wscLH tk h3 rfl rfl rfl rfl rfl ?_
  refine rn tk 5 rfl ?_
  cases hr
  exact kr tk (.inr rfl) rfl rfl
 ·
  refine rn tk 5 rfl ?_
  refine wq (ev_iquo rfl rfl rfl) rfl rfl rfl ?_
  obtain ⟨v4, h5, hr⟩ := bind_some hr
  refine cl (R_Digits_r4_run _ _ h5) rfl rfl ?_
  refine rn tk 1 rfl ?_
  refine wq (ev_irem rfl rfl rfl) rfl rfl rfl ?_
  obtain ⟨v6, h7, hr⟩ := bind_some hr
  refine cl (R_Digits_r4_run _ _ h7) rfl rfl ?_
  obtain ⟨v8, h9, hr⟩ := bind_some hr
  refine wc h9 rfl rfl rfl ?_
  refine rn tk 4 rfl ?_
  cases hr
  exact kr tk (.inr rfl) rfl rfl
private theorem R_Digits_r6_run (a0 : Int) (r : Str) (hr : R_Digits_r6 a0 = some r) : Run Tryz.prog 75 [.i a0] (.s r) := by
 unfold R_Digits_r6 at hr
 refine rf (fn := Tryz.f75) ⟨Tryz.func75, rfl, by kernel_rfl⟩ rfl (fun _ => rfl) fun g0 hg => ?_
 refine rn tk 12 rfl ?_
 refine ac 4 hr rfl (fun c1 hr => ?_) (fun c1 hr => ?_)
 ·
  refine rn tk 5 rfl ?_
  obtain ⟨v2, h3, hr⟩ := bind_some hr
  refine wscLH tk h3 rfl rfl rfl rfl rfl ?_
  refine rn tk 5 rfl ?_
  cases hr
  exact kr tk (.inr rfl) rfl rfl
 ·
  refine rn tk 5 rfl ?_
  refine wq (ev_iquo rfl rfl rfl) rfl rfl rfl ?_
  obtain ⟨v4, h5, hr⟩ := bind_some hr
  refine cl (R_Digits_r5_run _ _ h5) rfl rfl ?_
  refine rn tk 1 rfl ?_
  refine wq (ev_irem rfl rfl rfl) rfl rfl rfl ?_
  obtain ⟨v6, h7, hr⟩ := bind_some hr
  refine cl (R_Digits_r5_run _ _ h7) rfl rfl ?_
  obtain ⟨v8, h9, hr⟩ := bind_some hr
  refine wc h9 rfl rfl rfl ?_
  refine rn tk 4 rfl ?_
  cases hr
  exact kr tk (.inr rfl) rfl rfl
private theorem R_Digits_r7_run (a0 : Int) (r : Str) (hr : R_Digits_r7 a0 = some r) : Run Tryz.prog 75 [.i a0] (.s r) := by
 unfold R_Digits_r7 at hr
 refine rf (fn := Tryz.f75) ⟨Tryz.func75, rfl, by kernel_rfl⟩ rfl (fun _ => rfl) fun g0 hg => ?_
 refine rn tk 12 rfl ?_
 refine ac 4 hr rfl (fun c1 hr => ?_) (fun c1 hr => ?_)
 ·
  refine rn tk 5 rfl ?_
  obtain ⟨v2, h3, hr⟩ := bind_some hr
  refine wscLH tk h3 rfl rfl rfl rfl rfl ?_
  refine rn tk 5 rfl ?_
  cases hr
  exact kr tk (.inr rfl) rfl rfl
 ·
  refine rn tk 5 rfl ?_
  refine wq (ev_iquo rfl rfl rfl) rfl rfl rfl ?_
  obtain ⟨v4, h5, hr⟩ := bind_some hr
  refine cl (R_Digits_r6_run _ _ h5) rfl rfl ?_
  refine rn tk 1 rfl ?_
  refine wq (ev_irem rfl rfl rfl) rfl rfl rfl ?_
  obtain ⟨v6, h7, hr⟩ := bind_some hr
  refine cl (R_Digits_r6_run _ _ h7) rfl rfl ?_
  obtain ⟨v8, h9, hr⟩ := bind_some hr
  refine wc h9 rfl rfl rfl ?_
  refine rn tk 4 rfl ?_
  cases hr
  exact kr tk (.inr rfl) rfl rfl
private theorem R_Digits_r8_run (a0 : Int) (r : Str) (hr : R_Digits_r8 a0 = some r) : Run Tryz.prog 75 [.i a0] (.s r) := by
 unfold R_Digits_r8 at hr
 refine rf (fn := Tryz.f75) ⟨Tryz.func75, rfl, by kernel_rfl⟩ rfl (fun _ => rfl) fun g0 hg => ?_
 refine rn tk 12 rfl ?_
 refine ac 4 hr rfl (fun c1 hr => ?_) (fun c1 hr => ?_)
 ·
  refine rn tk 5 rfl ?_
  obtain ⟨v2, h3, hr⟩ := bind_some hr
  refine wscLH tk h3 rfl rfl rfl rfl rfl ?_
  refine rn tk 5 rfl ?_
  cases hr
  exact kr tk (.inr rfl) rfl rfl
 ·
  refine rn tk 5 rfl ?_
  refine wq (ev_iquo rfl rfl rfl) rfl rfl rfl ?_
  obtain ⟨v4, h5, hr⟩ := bind_some hr
  refine cl (R_Digits_r7_run _ _ h5) rfl rfl ?_
  refine rn tk 1 rfl ?_
  refine wq (ev_irem rfl rfl rfl) rfl rfl rfl ?_
  obtain ⟨v6, h7, hr⟩ := bind_some hr
  refine cl (R_Digits_r7_run _ _ h7) rfl rfl ?_
  obtain ⟨v8, h9, hr⟩ := bind_some hr
  refine wc h9 rfl rfl rfl ?_
  refine rn tk 4 rfl ?_
  cases hr
  exact kr tk (.inr rfl) rfl rfl
private theorem R_Digits_r9_run (a0 : Int) (r : Str) (hr : R_Digits_r9 a0 = some r) : Run Tryz.prog 75 [.i a0] (.s r) := by
 unfold R_Digits_r9 at hr
 refine rf (fn := Tryz.f75) ⟨Tryz.func75, rfl, by kernel_rfl⟩ rfl (fun _ => rfl) fun g0 hg => ?_
 refine rn tk 12 rfl ?_
 refine ac 4 hr rfl (fun c1 hr => ?_) (fun c1 hr => ?_)
 ·
  refine rn tk 5 rfl ?_
  obtain ⟨v2, h3, hr⟩ := bind_some hr
  refine wscLH tk h3 rfl rfl rfl rfl rfl ?_
  refine rn tk 5 rfl ?_
  cases hr
  exact kr tk (.inr rfl) rfl rfl
 ·
  refine rn tk 5 rfl ?_
  refine wq (ev_iquo rfl rfl rfl) rfl rfl rfl ?_
  obtain ⟨v4, h5, hr⟩ := bind_some hr
  refine cl (R_Digits_r8_run _ _ h5) rfl rfl ?_
  refine rn tk 1 rfl ?_
  refine wq (ev_irem rfl rfl rfl) rfl rfl rfl ?_
  obtain ⟨v6, h7, hr⟩ := bind_some hr
  refine cl (R_Digits_r8_run _ _ h7) rfl rfl ?_
  obtain ⟨v8, h9, hr⟩ := bind_some hr
  refine wc h9 rfl rfl rfl ?_
  refine rn tk 4 rfl ?_
  cases hr
  exact kr tk (.inr rfl) rfl rfl
private theorem R_Digits_r10_run (a0 : Int) (r : Str) (hr : R_Digits_r10 a0 = some r) : Run Tryz.prog 75 [.i a0] (.s r) := by
 unfold R_Digits_r10 at hr
 refine rf (fn := Tryz.f75) ⟨Tryz.func75, rfl, by kernel_rfl⟩ rfl (fun _ => rfl) fun g0 hg => ?_
 refine rn tk 12 rfl ?_
 refine ac 4 hr rfl (fun c1 hr => ?_) (fun c1 hr => ?_)
 ·
  refine rn tk 5 rfl ?_
  obtain ⟨v2, h3, hr⟩ := bind_some hr
  refine wscLH tk h3 rfl rfl rfl rfl rfl ?_
  refine rn tk 5 rfl ?_
  cases hr
  exact kr tk (.inr rfl) rfl rfl
 ·
  refine rn tk 5 rfl ?_
  refine wq (ev_iquo rfl rfl rfl) rfl rfl rfl ?_
  obtain ⟨v4, h5, hr⟩ := bind_some hr
  refine cl (R_Digits_r9_run _ _ h5) rfl rfl ?_
  refine rn tk 1 rfl ?_
  refine wq (ev_irem rfl rfl rfl) rfl rfl rfl ?_
  obtain ⟨v6, h7, hr⟩ := bind_some hr
  refine cl (R_Digits_r9_run _ _ h7) rfl rfl ?_
  obtain ⟨v8, h9, hr⟩ := bind_some hr
  refine wc h9 rfl rfl rfl ?_
  refine rn tk 4 rfl ?_
  cases hr
  exact kr tk (.inr rfl) rfl rfl
private theorem R_Digits_r11_run (a0 : Int) (r : Str) (hr : R_Digits_r11 a0 = some r) : Run Tryz.prog 75 [.i a0] (.s r) := by
 unfold R_Digits_r11 at hr
 refine rf (fn := Tryz.f75) ⟨Tryz.func75, rfl, by kernel_rfl⟩ rfl (fun _ => rfl) fun g0 hg => ?_
 refine rn tk 12 rfl ?_
 refine ac 4 hr rfl (fun c1 hr => ?_) (fun c1 hr => ?_)
 ·
  refine rn tk 5 rfl ?_
  obtain ⟨v2, h3, hr⟩ := bind_some hr
  refine wscLH tk h3 rfl rfl rfl rfl rfl ?_
  refine rn tk 5 rfl ?_
  cases hr
  exact kr tk (.inr rfl) rfl rfl
 ·
  refine rn tk 5 rfl ?_
  refine wq (ev_iquo rfl rfl rfl) rfl rfl rfl ?_
  obtain ⟨v4, h5, hr⟩ := bind_some hr
  refine cl (R_Digits_r10_run _ _ h5) rfl rfl ?_
  refine rn tk 1 rfl ?_
  refine wq (ev_irem rfl rfl rfl) rfl rfl rfl ?_
  obtain ⟨v6, h7, hr⟩ := bind_some hr
  refine cl (R_Digits_r10_run _ _ h7) rfl rfl ?_
  obtain ⟨v8, h9, hr⟩ := bind_some hr
  refine wc h9 rfl rfl rfl ?_
  refine rn tk 4 rfl ?_
  cases hr
  exact kr tk (.inr rfl) rfl rfl
theorem R_Digits_run (a0 : Int) (r : Str) (hr : R_Digits a0 = some r) : Run Tryz.prog 75 [.i a0] (.s r) := by
 unfold R_Digits at hr
 refine rf (fn := Tryz.f75) ⟨Tryz.func75, rfl, by kernel_rfl⟩ rfl (fun _ => rfl) fun g0 hg => ?_
 refine rn tk 12 rfl ?_
 refine ac 4 hr rfl (fun c1 hr => ?_) (fun c1 hr => ?_)
 ·
  refine rn tk 5 rfl ?_
  obtain ⟨v2, h3, hr⟩ := bind_some hr
  refine wscLH tk h3 rfl rfl rfl rfl rfl ?_
  refine rn tk 5 rfl ?_
  cases hr
  exact kr tk (.inr rfl) rfl rfl
 ·
  refine rn tk 5 rfl ?_
  refine wq (ev_iquo rfl rfl rfl) rfl rfl rfl ?_
  obtain ⟨v4, h5, hr⟩ := bind_some hr
  refine cl (R_Digits_r11_run _ _ h5) rfl rfl ?_
  refine rn tk 1 rfl ?_
  refine wq (ev_irem rfl rfl rfl) rfl rfl rfl ?_
  obtain ⟨v6, h7, hr⟩ := bind_some hr
  refine cl (R_Digits_r11_run _ _ h7) rfl rfl ?_
  obtain ⟨v8, h9, hr⟩ := bind_some hr
  refine wc h9 rfl rfl rfl ?_
  refine rn tk 4 rfl ?_
  cases hr
  exact kr tk (.inr rfl) rfl rfl
theorem R_Fill_run (a0 : Int) (a1 : Int) (r : Str) (hr : R_Fill a0 a1 = some r) : Run Tryz.prog 57 [.i a0, .i a1] (.s r) := by
 unfold R_Fill at hr
 refine rf (fn := Tryz.f57) ⟨Tryz.func57, rfl, by kernel_rfl⟩ rfl (fun _ => rfl) fun g0 hg => ?_
 refine rn tk 8 rfl ?_
 obtain ⟨v1, h2, hr⟩ := bind_some hr
 refine cl (R_Digits_run _ _ h2) rfl rfl ?_
 refine rn tk 5 rfl ?_
 refine al1 hr (fun s3 => [(1, .i a1), (5, .s s3)]) (fun s3 => []) (.exit 0) (fun b4 => [(5, .s b4)]) (fun b4 => []) rfl rfl (fun s3 x5 hr => ?_) (fun b4 hr => ?_)
 ·
  unfold R_Fill_l1 at hr
  refine rn tk 9 rfl ?_
  refine ac 11 hr rfl (fun c6 hr => ?_) (fun c6 hr => ?_)
  ·
   refine rn tk 5 rfl ?_
   obtain ⟨v7, h8, hr⟩ := bind_some hr
   refine wc h8 rfl rfl rfl ?_
   refine rn tk 3 rfl ?_
   cases hr
   exact atc rfl rfl
  ·
   refine rn tk 2 rfl ?_
   cases hr
   exact ato rfl rfl rfl rfl
 ·
  refine rn tk 9 rfl ?_
  cases hr
  exact kr tk (.inr rfl) rfl rfl
theorem R_leap_run (a0 : Int) (r : Bool) (hr : R_leap a0 = some r) : Run Tryz.prog 55 [.i a0] (.bo r) := by
 unfold R_leap at hr
 refine rf (fn := Tryz.f55) ⟨Tryz.func55, rfl, by kernel_rfl⟩ rfl (fun _ => rfl) fun g0 hg => ?_
 refine rn tk 5 rfl ?_
 refine jb hr (fun j1 => [(2, .bo j1)]) (fun j1 => []) (fun j1 hr => ?_) (fun j1 hr => ?_)
 ·
  refine rn tk 2 rfl ?_
  refine wq (ev_irem rfl rfl rfl) rfl rfl rfl ?_
  refine rn tk 2 rfl ?_
  refine bs 6 hr rfl (fun c2 hr => ?_) (fun c2 hr => ?_)
  ·
   refine rn tk 1 rfl ?_
   refine ug rfl rfl rfl ?_
   refine wq (ev_irem rfl rfl rfl) rfl rfl rfl ?_
   refine rn tk 3 rfl ?_
   refine bs 11 hr rfl (fun c3 hr => ?_) (fun c3 hr => ?_)
   ·
    refine rn tk 6 rfl ?_
    cases hr
    exact jn _ rfl rfl rfl
   ·
    refine rn tk 1 rfl ?_
    refine ug rfl rfl rfl ?_
    refine wq (ev_irem rfl rfl rfl) rfl rfl rfl ?_
    refine rn tk 4 rfl ?_
    cases hr
    exact jn _ rfl rfl rfl
  ·
   refine rn tk 6 rfl ?_
   refine ug rfl rfl rfl ?_
   refine wq (ev_irem rfl rfl rfl) rfl rfl rfl ?_
   refine rn tk 4 rfl ?_
   cases hr
   exact jn _ rfl rfl rfl
 ·
  refine rn tk 1 rfl ?_
  cases hr
  exact kr tk (.inr rfl) rfl rfl
theorem R_days_run (a0 : Int) (a1 : Int) (r : Int) (hr : R_days a0 a1 = some r) : Run Tryz.prog 56 [.i a0, .i a1] (.i r) := by
 unfold R_days at hr
 refine rf (fn := Tryz.f56) ⟨Tryz.func56, rfl, by kernel_rfl⟩ rfl (fun _ => rfl) fun g0 hg => ?_
 refine rn tk 6 rfl ?_
 refine jb hr (fun j1 => [(1, .i a1), (11, .bo j1)]) (fun j1 => []) (fun j1 hr => ?_) (fun j1 hr => ?_)
 ·
  refine rn tk 4 rfl ?_
  refine bs 8 hr rfl (fun c2 hr => ?_) (fun c2 hr => ?_)
  ·
   refine rn tk 1 rfl ?_
   obtain ⟨v3, h4, hr⟩ := bind_some hr
   refine ug rfl rfl rfl ?_
   refine cl (R_leap_run _ _ h4) rfl rfl ?_
   refine rn tk 2 rfl ?_
   cases hr
   exact jn _ rfl rfl rfl
  ·
   refine rn tk 4 rfl ?_
   cases hr
   exact jn _ rfl rfl rfl
 ·
  refine ac 11 hr rfl (fun c5 hr => ?_) (fun c5 hr => ?_)
  ·
   refine rn tk 7 rfl ?_
   cases hr
   exact kr tk (.inr rfl) rfl rfl
  ·
   refine rn tk 4 rfl ?_
   refine wz cI ([31, 28, 31, 30, 31, 30, 31, 31, 30, 31, 30, 31] : List Int) tk rfl rfl (fun _ => rfl) rfl (by kernel_rfl) rfl ?_
   refine rn tk 8 rfl ?_
   obtain ⟨v6, h7, hr⟩ := bind_some hr
   refine wi tk h7 rfl rfl rfl rfl rfl ?_
   refine rn tk 5 rfl ?_
   cases hr
   exact kr tk (.inr rfl) rfl rfl
theorem R_When_run (a0 : Int) (r : Str × Bool) (hr : R_When a0 = some r) : Run Tryz.prog 25 [.i a0] (.tup [.s r.1, .bo r.2]) := by
 unfold R_When at hr
 refine rf (fn := Tryz.f25) ⟨Tryz.func25, rfl, by kernel_rfl⟩ rfl (fun _ => rfl) fun g0 hg => ?_
 refine rn tk 10 rfl ?_
 obtain ⟨v1, h2, hr⟩ := bind_some hr
 refine cl (R_In_run _ _ _ _ h2) rfl rfl ?_
 refine rn tk 3 rfl ?_
 refine ac 15 hr rfl (fun c3 hr => ?_) (fun c3 hr => ?_)
 ·
  refine rn tk 8 rfl ?_
  cases hr
  exact kr tk (.inr rfl) rfl rfl
 ·
  refine rn tk 9 rfl ?_
  refine al1 hr (fun s4 => [(0, .i s4.1), (4, .i s4.2)]) (fun s4 => []) (.exit 0) (fun b5 => [(0, .i b5.1), (4, .i b5.2)]) (fun b5 => []) rfl rfl (fun s4 x6 hr => ?_) (fun b5 hr => ?_)
  ·
   unfold R_When_l1 at hr
   refine rn tk 7 rfl ?_
   refine ac 17 hr rfl (fun c7 hr => ?_) (fun c7 hr => ?_)
   ·
    refine rn tk 16 rfl ?_
    cases hr
    exact atc rfl rfl
   ·
    refine rn tk 2 rfl ?_
    cases hr
    exact ato rfl rfl rfl rfl
  ·
   refine rn tk 6 rfl ?_
   refine wq (ev_iquo rfl rfl rfl) rfl rfl rfl ?_
   refine rn tk 7 rfl ?_
   refine wq (ev_irem rfl rfl rfl) rfl rfl rfl ?_
   refine rn tk 10 rfl ?_
   refine al1 hr (fun s8 => [(0, .i ((iRem b5.1 86400))), (4, .i s8.1), (5, .i s8.2)]) (fun s8 => []) (.exit 2) (fun b9 => [(0, .i ((iRem b5.1 86400))), (4, .i b9.1), (5, .i b9.2)]) (fun b9 => []) rfl rfl (fun s8 x10 hr => ?_) (fun b9 hr => ?_)
   ·
    unfold R_When_l2 at hr
    refine rn tk 7 rfl ?_
    refine ac 29 hr rfl (fun c11 hr => ?_) (fun c11 hr => ?_)
    ·
     refine rn tk 20 rfl ?_
     obtain ⟨v12, h13, hr⟩ := bind_some hr
     refine cl (R_leap_run _ _ h13) rfl rfl ?_
     refine rn tk 2 rfl ?_
     refine ac 35 hr rfl (fun c14 hr => ?_) (fun c14 hr => ?_)
     ·
      refine rn tk 6 rfl ?_
      cases hr
      exact atc rfl rfl
     ·
      refine rn tk 2 rfl ?_
      cases hr
      exact atc rfl rfl
    ·
     refine rn tk 2 rfl ?_
     cases hr
     exact ato rfl rfl rfl rfl
   ·
    refine rn tk 4 rfl ?_
    refine al1 hr (fun s15 => [(0, .i ((iRem b5.1 86400))), (4, .i s15.1), (5, .i s15.2)]) (fun s15 => []) (.exit 4) (fun b16 => [(0, .i ((iRem b5.1 86400))), (4, .i b16.1), (5, .i b16.2)]) (fun b16 => []) rfl rfl (fun s15 x17 hr => ?_) (fun b16 hr => ?_)
    ·
     unfold R_When_l3 at hr
     refine rn tk 6 rfl ?_
     refine jb hr (fun j18 => [(0, .i ((iRem b5.1 86400))), (4, .i s15.1), (5, .i s15.2), (6, .i j18)]) (fun j18 => []) (fun j18 hr => ?_) (fun j18 hr => ?_)
     ·
      refine rn tk 3 rfl ?_
      obtain ⟨v19, h20, hr⟩ := bind_some hr
      refine cl (R_leap_run _ _ h20) rfl rfl ?_
      refine rn tk 2 rfl ?_
      refine ac 39 hr rfl (fun c21 hr => ?_) (fun c21 hr => ?_)
      ·
       refine rn tk 3 rfl ?_
       cases hr
       exact jn _ rfl rfl rfl
      ·
       refine rn tk 1 rfl ?_
       cases hr
       exact jn _ rfl rfl rfl
     ·
      refine rn tk 8 rfl ?_
      refine ac 42 hr rfl (fun c22 hr => ?_) (fun c22 hr => ?_)
      ·
       refine rn tk 3 rfl ?_
       cases hr
       exact ato rfl rfl rfl rfl
      ·
       refine rn tk 16 rfl ?_
       cases hr
       exact atc rfl rfl
    ·
     refine rn tk 6 rfl ?_
     obtain ⟨v23, h24, hr⟩ := bind_some hr
     refine cl (R_In_run _ _ _ _ h24) rfl rfl ?_
     refine rn tk 3 rfl ?_
     refine ac 50 hr rfl (fun c25 hr => ?_) (fun c25 hr => ?_)
     ·
      refine rn tk 8 rfl ?_
      cases hr
      exact kr tk (.inr rfl) rfl rfl
     ·
      refine rn tk 15 rfl ?_
      refine al1 hr (fun s26 => [(0, .i ((iRem b5.1 86400))), (4, .i b16.1), (5, .i b16.2), (7, .i s26.1), (8, .i s26.2)]) (fun s26 => []) (.exit 6) (fun b27 => [(0, .i ((iRem b5.1 86400))), (4, .i b16.1), (5, .i b16.2), (7, .i b27.1), (8, .i b27.2)]) (fun b27 => []) rfl rfl (fun s26 x28 hr => ?_) (fun b27 hr => ?_)
      ·
       unfold R_When_l4 at hr
       refine rn tk 6 rfl ?_
       obtain ⟨v29, h30, hr⟩ := bind_some hr
       refine cl (R_days_run _ _ _ h30) rfl rfl ?_
       refine rn tk 3 rfl ?_
       refine ac 56 hr rfl (fun c31 hr => ?_) (fun c31 hr => ?_)
       ·
        refine rn tk 8 rfl ?_
        obtain ⟨v32, h33, hr⟩ := bind_some hr
        refine cl (R_days_run _ _ _ h33) rfl rfl ?_
        refine rn tk 10 rfl ?_
        cases hr
        exact atc rfl rfl
       ·
        refine rn tk 2 rfl ?_
        cases hr
        exact ato rfl rfl rfl rfl
      ·
       refine rn tk 14 rfl ?_
       refine al1 hr (fun s34 => [(0, .i ((iRem b5.1 86400))), (4, .i b16.1), (5, .i b16.2), (7, .i b27.1), (8, .i b27.2), (9, .i s34.1), (10, .i s34.2)]) (fun s34 => []) (.exit 8) (fun b35 => [(0, .i ((iRem b5.1 86400))), (4, .i b16.1), (5, .i b16.2), (7, .i b27.1), (8, .i b27.2), (9, .i b35)]) (fun b35 => []) rfl rfl (fun s34 x36 hr => ?_) (fun b35 hr => ?_)
       ·
        unfold R_When_l5 at hr
        refine rn tk 8 rfl ?_
        refine ac 66 hr rfl (fun c37 hr => ?_) (fun c37 hr => ?_)
        ·
         refine rn tk 2 rfl ?_
         refine jb hr (fun j38 => [(0, .i ((iRem b5.1 86400))), (4, .i b16.1), (5, .i b16.2), (7, .i b27.1), (8, .i b27.2), (9, .i j38), (10, .i s34.2)]) (fun j38 => []) (fun j38 hr => ?_) (fun j38 hr => ?_)
         ·
          refine rn tk 11 rfl ?_
          obtain ⟨v39, h40, hr⟩ := bind_some hr
          refine cl (R_leap_run _ _ h40) rfl rfl ?_
          refine rn tk 2 rfl ?_
          refine ac 72 hr rfl (fun c41 hr => ?_) (fun c41 hr => ?_)
          ·
           refine rn tk 6 rfl ?_
           cases hr
           exact jn _ rfl rfl rfl
          ·
           refine rn tk 2 rfl ?_
           cases hr
           exact jn _ rfl rfl rfl
         ·
          refine rn tk 5 rfl ?_
          cases hr
          exact atc rfl rfl
        ·
         refine rn tk 2 rfl ?_
         cases hr
         exact ato rfl rfl rfl rfl
       ·
        refine rn tk 7 rfl ?_
        refine wq (ev_irem rfl rfl rfl) rfl rfl rfl ?_
        refine rn tk 14 rfl ?_
        obtain ⟨v42, h43, hr⟩ := bind_some hr
        obtain ⟨v44, h45, hr⟩ := bind_some hr
        obtain ⟨v46, h47, hr⟩ := bind_some hr
        obtain ⟨v48, h49, hr⟩ := bind_some hr
        obtain ⟨v50, h51, hr⟩ := bind_some hr
        obtain ⟨v52, h53, hr⟩ := bind_some hr
        obtain ⟨v54, h55, hr⟩ := bind_some hr
        obtain ⟨v56, h57, hr⟩ := bind_some hr
        obtain ⟨v58, h59, hr⟩ := bind_some hr
        obtain ⟨v60, h61, hr⟩ := bind_some hr
        obtain ⟨v62, h63, hr⟩ := bind_some hr
        obtain ⟨v64, h65, hr⟩ := bind_some hr
        obtain ⟨v66, h67, hr⟩ := bind_some hr
        obtain ⟨v68, h69, hr⟩ := bind_some hr
        obtain ⟨v70, h71, hr⟩ := bind_some hr
        obtain ⟨v72, h73, hr⟩ := bind_some hr
        obtain ⟨v74, h75, hr⟩ := bind_some hr
        obtain ⟨v76, h77, hr⟩ := bind_some hr
        refine dr 40 [(118, .s v76), (117, .i ((iRem ((iRem b5.1 86400)) 60))), (116, .i ((iRem b5.1 86400))), (115, .s v74), (114, .s v72), (113, .s v70), (112, .i ((iRem ((iQuo ((iRem b5.1 86400)) 60)) 60))), (111, .i ((iQuo ((iRem b5.1 86400)) 60))), (110, .i ((iRem b5.1 86400))), (109, .s v68), (108, .s v66), (107, .s v64), (106, .i ((iQuo ((iRem b5.1 86400)) 3600))), (105, .i ((iRem b5.1 86400))), (104, .s v62), (103, .s v60), (102, .s v58), (101, .i b16.2), (100, .s v56), (99, .s v54), (98, .s v52), (97, .i ((w64 (3 * b27.1)))), (96, .i b27.1), (95, .i ((w64 ((w64 (3 * b27.1)) - 3)))), (94, .i ((w64 (3 * b27.1)))), (93, .i b27.1), (92, .s (([74, 97, 110, 70, 101, 98, 77, 97, 114, 65, 112, 114, 77, 97, 121, 74, 117, 110, 74, 117, 108, 65, 117, 103, 83, 101, 112, 79, 99, 116, 78, 111, 118, 68, 101, 99] : Str))), (91, .s v50), (90, .s v48), (89, .s v46), (88, .i ((w64 (b27.2 + 1)))), (87, .i b27.2), (86, .s v44), (85, .s v42), (84, .i ((w64 ((w64 (3 * (iRem ((w64 (b35 + b16.1))) 7))) + 3)))), (83, .i ((w64 (3 * (iRem ((w64 (b35 + b16.1))) 7))))), (82, .i ((iRem ((w64 (b35 + b16.1))) 7))), (81, .i ((w64 (3 * (iRem ((w64 (b35 + b16.1))) 7))))), (80, .i ((iRem ((w64 (b35 + b16.1))) 7))), (79, .s (([83, 117, 110, 77, 111, 110, 84, 117, 101, 87, 101, 100, 84, 104, 117, 70, 114, 105, 83, 97, 116] : Str)))] mixed (by kernel_rfl) rfl rfl (pq tk rfl (.plain rfl) (pq tk rfl (.plain rfl) (pq tk rfl (.plain rfl) (pq tk rfl (.plain rfl) (pq tk rfl (.plain rfl) (pq tk rfl (.plain rfl) (.run (.plain rfl) (opG_q (ev_scutLH rfl rfl rfl ty_string h43)) (.run (.plain rfl) (opG_q (ev_cat rfl rfl h45)) (pq tk rfl (.plain rfl) (pq tk rfl (.plain rfl) (.run (.plain rfl) (opG_call (R_Fill_run ((w64 (b27.2 + 1))) 2 v46 h47) rfl) (.run (.plain rfl) (opG_q (ev_cat rfl rfl h49)) (.run (.plain rfl) (opG_q (ev_cat rfl rfl h51)) (pq tk rfl (.plain rfl) (pq tk rfl (.plain rfl) (pq tk rfl (.plain rfl) (pq tk rfl (.plain rfl) (pq tk rfl (.plain rfl) (pq tk rfl (.plain rfl) (.run (.plain rfl) (opG_q (ev_scutLH rfl rfl rfl ty_string h53)) (.run (.plain rfl) (opG_q (ev_cat rfl rfl h55)) (.run (.plain rfl) (opG_q (ev_cat rfl rfl h57)) (pq tk rfl (.plain rfl) (.run (.plain rfl) (opG_call (R_Fill_run b16.2 4 v58 h59) rfl) (.run (.plain rfl) (opG_q (ev_cat rfl rfl h61)) (.run (.plain rfl) (opG_q (ev_cat rfl rfl h63)) (pq tk rfl (.plain rfl) (.run (.plain rfl) (opG_q (ev_iquo rfl rfl rfl)) (.run (.plain rfl) (opG_call (R_Fill_run ((iQuo ((iRem b5.1 86400)) 3600)) 2 v64 h65) rfl) (.run (.plain rfl) (opG_q (ev_cat rfl rfl h67)) (.run (.plain rfl) (opG_q (ev_cat rfl rfl h69)) (pq tk rfl (.plain rfl) (.run (.plain rfl) (opG_q (ev_iquo rfl rfl rfl)) (.run (.plain rfl) (opG_q (ev_irem rfl rfl rfl)) (.run (.plain rfl) (opG_call (R_Fill_run ((iRem ((iQuo ((iRem b5.1 86400)) 60)) 60)) 2 v70 h71) rfl) (.run (.plain rfl) (opG_q (ev_cat rfl rfl h73)) (.run (.plain rfl) (opG_q (ev_cat rfl rfl h75)) (pq tk rfl (.plain rfl) (.run (.plain rfl) (opG_q (ev_irem rfl rfl rfl)) (.run (.plain rfl) (opG_call (R_Fill_run ((iRem ((iRem b5.1 86400)) 60)) 2 v76 h77) rfl) .nil)))))))))))))))))))))))))))))))))))))))) rfl ?_
        obtain ⟨v78, h79, hr⟩ := bind_some hr
        refine wc h79 rfl rfl rfl ?_
        obtain ⟨v80, h81, hr⟩ := bind_some hr
        refine wc h81 rfl rfl rfl ?_
        refine rn tk 5 rfl ?_
        cases hr
        exact kr tk (.inr rfl) rfl rfl
theorem R_Stamped_run (a0 : TMessage) (a1 : Str) (a2 : Str) (a3 : Int) (r : TMessage × TFault) (hr : R_Stamped a0 a1 a2 a3 = some r) : Run Tryz.prog 7 [.agg [.l TField.pc a0.Fields, .l cU a0.Body], .s a1, .s a2, .i a3] (.tup [.agg [.l TField.pc r.1.Fields, .l cU r.1.Body], .agg [.i r.2.Code, .i r.2.Index]]) := by
 unfold R_Stamped at hr
 refine rf (fn := Tryz.f7) ⟨Tryz.func7, rfl, by kernel_rfl⟩ rfl (fun _ => rfl) fun g0 hg => ?_
 refine rn tk 10 rfl ?_
 obtain ⟨v1, h2, hr⟩ := bind_some hr
 refine cl (R_MessageFault_run _ _ h2) rfl rfl ?_
 refine rn tk 12 rfl ?_
 refine ac 18 hr rfl (fun c3 hr => ?_) (fun c3 hr => ?_)
 ·
  refine rn tk 1 rfl ?_
  refine drX 2 3 3 3 [1] [(20, .agg [.i v1.Code, .i v1.Index]), (19, .agg [.pv (.sl (some true) []), .pv (.sl (some true) [])])] [(8, .ptr 8 0), (9, .ptr 9 0), (20, .agg [.i v1.Code, .i v1.Index])] [(10, .cells [.i v1.Code, .i v1.Index]), (9, .cells [.i 0, .i 0]), (8, .cells [.pv (.sl (some true) []), .pv (.sl (some true) [])]), (4, .cells [.l TField.pc a0.Fields, .l cU a0.Body])] tk mixed (by kernel_rfl) rfl rfl rfl (pqX tk rfl (.plain rfl) (pqX tk rfl (.plain rfl) .nil)) rfl rfl rfl rfl (by kernel_rfl) ?_
  refine rn tk 5 rfl ?_
  cases hr
  exact kr tk (.inr rfl) rfl rfl
 ·
  refine rn tk 6 rfl ?_
  obtain ⟨v4, h5, hr⟩ := bind_some hr
  refine cl (R_NameOk_run _ _ h5) rfl rfl ?_
  refine rn tk 3 rfl ?_
  refine ac 23 hr rfl (fun c6 hr => ?_) (fun c6 hr => ?_)
  ·
   refine rn tk 3 rfl ?_
   obtain ⟨v7, h8, hr⟩ := bind_some hr
   refine cl (R_At_run _ _ _ h8) rfl rfl ?_
   refine rn tk 6 rfl ?_
   cases hr
   exact kr tk (.inr rfl) rfl rfl
  ·
   refine rn tk 6 rfl ?_
   obtain ⟨v9, h10, hr⟩ := bind_some hr
   refine cl (R_NameOk_run _ _ h10) rfl rfl ?_
   refine rn tk 3 rfl ?_
   refine ac 28 hr rfl (fun c11 hr => ?_) (fun c11 hr => ?_)
   ·
    refine rn tk 3 rfl ?_
    obtain ⟨v12, h13, hr⟩ := bind_some hr
    refine cl (R_At_run _ _ _ h13) rfl rfl ?_
    refine rn tk 6 rfl ?_
    cases hr
    exact kr tk (.inr rfl) rfl rfl
   ·
    refine rn tk 7 rfl ?_
    refine wn tk rfl rfl rfl ?_
    refine rn tk 3 rfl ?_
    refine ac 34 hr rfl (fun c14 hr => ?_) (fun c14 hr => ?_)
    ·
     refine rn tk 3 rfl ?_
     obtain ⟨v15, h16, hr⟩ := bind_some hr
     refine cl (R_At_run _ _ _ h16) rfl rfl ?_
     refine rn tk 6 rfl ?_
     cases hr
     exact kr tk (.inr rfl) rfl rfl
    ·
     refine rn tk 5 rfl ?_
     obtain ⟨v17, h18, hr⟩ := bind_some hr
     refine cl (R_When_run _ _ h18) rfl rfl ?_
     refine rn tk 14 rfl ?_
     refine ac 43 hr rfl (fun c19 hr => ?_) (fun c19 hr => ?_)
     ·
      refine rn tk 3 rfl ?_
      obtain ⟨v20, h21, hr⟩ := bind_some hr
      refine cl (R_At_run _ _ _ h21) rfl rfl ?_
      refine rn tk 6 rfl ?_
      cases hr
      exact kr tk (.inr rfl) rfl rfl
     ·
      refine rn tk 6 rfl ?_
      obtain ⟨v22, h23, hr⟩ := bind_some hr
      refine wc h23 rfl rfl rfl ?_
      obtain ⟨v24, h25, hr⟩ := bind_some hr
      refine wc h25 rfl rfl rfl ?_
      refine rn tk 1 rfl ?_
      obtain ⟨v26, h27, hr⟩ := bind_some hr
      refine wc h27 rfl rfl rfl ?_
      obtain ⟨v28, h29, hr⟩ := bind_some hr
      refine wc h29 rfl rfl rfl ?_
      refine rn tk 1 rfl ?_
      obtain ⟨v30, h31, hr⟩ := bind_some hr
      refine wc h31 rfl rfl rfl ?_
      obtain ⟨v32, h33, hr⟩ := bind_some hr
      refine cl (R_Fronted_run _ _ _ _ h33) rfl rfl ?_
      refine rn tk 7 rfl ?_
      obtain ⟨v34, h35, hr⟩ := bind_some hr
      refine cl (R_MessageFault_run _ _ h35) rfl rfl ?_
      refine rn tk 11 rfl ?_
      refine ac 60 hr rfl (fun c36 hr => ?_) (fun c36 hr => ?_)
      ·
       refine rn tk 5 rfl ?_
       obtain ⟨v37, h38, hr⟩ := bind_some hr
       refine cl (R_At_run _ _ _ h38) rfl rfl ?_
       refine rn tk 6 rfl ?_
       cases hr
       exact kr tk (.inr rfl) rfl rfl
      ·
       refine rn tk 3 rfl ?_
       refine drX 2 3 3 3 [1] [(66, .agg [.i v34.Code, .i v34.Index]), (65, .agg [.l TField.pc v32.Fields, .l cU v32.Body])] [(8, .ptr 8 0), (9, .ptr 9 0), (66, .agg [.i v34.Code, .i v34.Index])] [(13, .cells [.l TField.pc v32.Fields, .l cU v32.Body]), (10, .cells [.i v34.Code, .i v34.Index]), (9, .cells [.i 0, .i 0]), (8, .cells [.l TField.pc v32.Fields, .l cU v32.Body]), (4, .cells [.l TField.pc a0.Fields, .l cU a0.Body])] tk mixed (by kernel_rfl) rfl rfl rfl (pqX tk rfl (.plain rfl) (pqX tk rfl (.plain rfl) .nil)) rfl rfl rfl rfl (by kernel_rfl) ?_
       refine rn tk 4 rfl ?_
       cases hr
       exact kr tk (.inr rfl) rfl rfl
theorem L_TraceMatchesSpec_run (a0 : TMessage) (a1 : Str) (a2 : Str) (a3 : Int) (r : Bool) (hr : L_TraceMatchesSpec a0 a1 a2 a3 = some r) : Run Tryz.prog 3 [.agg [.l TField.pc a0.Fields, .l cU a0.Body], .s a1, .s a2, .i a3] (.bo r) := by
 unfold L_TraceMatchesSpec at hr
 refine rf (fn := Tryz.f3) ⟨Tryz.func3, rfl, by kernel_rfl⟩ rfl (fun _ => rfl) fun g0 hg => ?_
 refine rn tk 12 rfl ?_
 obtain ⟨v1, h2, hr⟩ := bind_some hr
 refine cl (trace_Stamp_run _ _ _ _ _ h2) rfl rfl ?_
 refine rn tk 15 rfl ?_
 obtain ⟨v3, h4, hr⟩ := bind_some hr
 refine cl (R_Stamped_run _ _ _ _ _ h4) rfl rfl ?_
 refine rn tk 9 rfl ?_
 refine jb hr (fun j5 => [(8, .bo j5)]) (fun j5 => []) (fun j5 hr => ?_) (fun j5 hr => ?_)
 ·
  refine rn tk 1 rfl ?_
  obtain ⟨v6, h7, hr⟩ := bind_some hr
  refine cl (L_stamps_run _ h7) rfl rfl ?_
  refine rn tk 1 rfl ?_
  refine bs 30 hr rfl (fun c8 hr => ?_) (fun c8 hr => ?_)
  ·
   refine rn tk 2 rfl ?_
   refine ug rfl rfl rfl ?_
   refine wq (ev_structeq rfl rfl ty_api_Fault cmp_api_Fault (.int rfl (by decide) ty_int (.int rfl (by decide) ty_int .nil))) rfl rfl rfl ?_
   refine rn tk 2 rfl ?_
   refine bs 35 hr rfl (fun c9 hr => ?_) (fun c9 hr => ?_)
   ·
    refine rn tk 2 rfl ?_
    obtain ⟨v10, h11, hr⟩ := bind_some hr
    refine ug rfl rfl rfl ?_
    refine cl (R_SameMessage_run _ _ _ h11) rfl rfl ?_
    refine rn tk 3 rfl ?_
    cases hr
    exact jn _ rfl rfl rfl
   ·
    refine rn tk 6 rfl ?_
    cases hr
    exact jn _ rfl rfl rfl
  ·
   refine rn tk 11 rfl ?_
   cases hr
   exact jn _ rfl rfl rfl
 ·
  refine rn tk 1 rfl ?_
  cases hr
  exact kr tk (.inr rfl) rfl rfl
end Go.Proofs.YtpbanomkkkongaaGreatDoor

namespace Go.Proofs.YtpbanomkkkongaaGreatDoor.traceMatchesSpec
open Go.ChangeShapes Go.WideShapes Go.ChangeAt Go.RowKit
set_option linter.unusedVariables false
set_option maxRecDepth 100000

theorem contract (H : Type) (enc : TypeId × Value → H) (W : World) (base : Nat) (args : Array Value) (ds gs : List (DataW H)) (before : List MemPlace)
    (hval : ∀ (j : Nat) t v, Tryz.f3.params[j]? = some t → args[j]? = some v → Value.okWide Tryz.prog W .any base t v)
    (hW : DataW.Whole enc Tryz.prog Tryz.f3.params.toList Rows.traceMatchesSpecSpec.vars false W args.toList ds gs before) (hk : Rows.uptoSmall H (ds ++ gs) = true) (hgl : Gl (gAll W)) :
    Calls Tryz.prog 3 args W fun e W' => ∃ v, e = .returned v ∧ Rows.traceMatchesSpecSpec.post enc Tryz.prog Tryz.f3 false true false false W args v W' := by
  have hW' := hW
  obtain ⟨p, q, hA0, hV, rfl, hfz, hnd⟩ := hW
  have hA : DataW.TrodAll enc Tryz.prog W 0 (fun _ => true) true Tryz.f3.params.toList args.toList ds p := hA0
  rw [Tryz.params3] at hA hval
  obtain ⟨v0, vs0, d0, ds0, p0, q0, hargs, rfl, rfl, h0, r0⟩ := trodAll_cons hA
  obtain ⟨v1, vs1, d1, ds1, p1, q1, rfl, rfl, rfl, h1, r1⟩ := trodAll_cons r0
  obtain ⟨v2, vs2, d2, ds2, p2, q2, rfl, rfl, rfl, h2, r2⟩ := trodAll_cons r1
  obtain ⟨v3, vs3, d3, ds3, p3, q3, rfl, rfl, rfl, h3, r3⟩ := trodAll_cons r2
  obtain ⟨rfl, rfl, rfl⟩ := trodAll_nil r3
  obtain rfl : args = #[v0, v1, v2, v3] := by cases args; simp_all
  obtain ⟨rfl, rfl⟩ := trodVars_none hV
  obtain ⟨a0, e0, o0, k0⟩ := arg_agg op_api_Message (by obtain ⟨cs, h, _⟩ := okWide_struct ty_api_Message.u (hval 0 _ v0 rfl rfl); exact ⟨cs, h⟩) h0
  obtain ⟨a1, e1, o1, k1⟩ := arg_one op_string (by obtain ⟨_, h⟩ := okWide_string ty_string.u (hval 1 _ v1 rfl rfl); rw [h]; rfl) h1
  obtain ⟨a2, e2, o2, k2⟩ := arg_one op_string (by obtain ⟨_, h⟩ := okWide_string ty_string.u (hval 2 _ v2 rfl rfl); rw [h]; rfl) h2
  obtain ⟨a3, e3, o3, k3⟩ := arg_one op_int (by obtain ⟨_, h⟩ := okWide_int ty_int.u (hval 3 _ v3 rfl rfl); rw [h]; rfl) h3
  have hk2 := of_decide_eq_true hk
  simp only [List.append_nil, Rows.uptoBulkAll] at hk2
  have ht := L_TraceMatchesSpec_true a0 a1 a2 a3 o0 o1 o2 o3 (by (try dsimp only); omega)
  have key : Calls Tryz.prog 3 #[v0, v1, v2, v3] W fun e W' => e = .returned (.bool true) ∧ Below W.heap.size W W' := calls_of_run (L_TraceMatchesSpec_run a0 a1 a2 a3 true ht) hgl (relArgs_of (.cons e0 (.cons (e1 _ rfl) (.cons (e2 _ rfl) (.cons (e3 _ rfl) .nil)))))
  refine key.mono fun e W' ⟨he, hb⟩ => ⟨_, he, ?_⟩
  exact post_true laidOut (by kernel_rfl) Tryz.underlying4 (by kernel_rfl) rfl rfl hW' hb

/-- a world for the witness -/
noncomputable def wit (os : Os) : World := let w0 := World.doorLaid Tryz.prog 34 os
  { w0 with heap := w0.heap.modify 2 fun
    | .cells _ t fz => .cells (Lib.firstTab.map fun z => Value.int .u8 z).toArray t fz
    | o => o }
theorem reads (os : Os) {H : Type} (enc : TypeId × Value → H) : ∃ places, DataW.whole enc Tryz.prog ((wit os).forCall (fun _ _ => 0) ⟨#[], #[.agg #[.slice none 0 0, .slice none 0 0], .string ⟨#[]⟩, .string ⟨#[]⟩, .int .i64 0], []⟩).memory Tryz.f3.params.toList (Rows.OpenSpec.upto Rows.traceMatchesSpecSpec).vars false (#[.agg #[.slice none 0 0, .slice none 0 0], .string ⟨#[]⟩, .string ⟨#[]⟩, .int .i64 0] : Array Value).toList 8 = some ([.agg [.nil, .nil], .lit (.string []), .lit (.string []), .lit (.int .i64 0)], [], places) :=
  ⟨[], by kernel_rfl⟩
theorem lifted (os : Os) (started : os.Started) (H : Type) (enc : TypeId × Value → H) (F : Stop.Interp) :
    ReturnsInHanded {} Tryz.checked os 3 .any ((Rows.OpenSpec.upto Rows.traceMatchesSpecSpec).preRow enc Tryz.prog Tryz.f3 Rows.traceMatchesSpecUptoRow.domain false Rows.traceMatchesSpecUptoRow.laid) (((Rows.OpenSpec.upto Rows.traceMatchesSpecSpec).at F).post enc Tryz.prog Tryz.f3 false true false false) := by
  obtain ⟨places, hx⟩ := reads os enc
  refine returnsInHanded_of_row (C := Tryz.checked) (s := Rows.OpenSpec.upto Rows.traceMatchesSpecSpec) own started (by kernel_rfl) Tryz.func3
    (witness_row_atRef (enc := enc) (C := Tryz.checked) false (wit os) #[.agg #[.slice none 0 0, .slice none 0 0], .string ⟨#[]⟩, .string ⟨#[]⟩, .int .i64 0] rfl (by kernel_rfl) (by kernel_rfl) (by kernel_rfl)
      (OpenSpec.preRow_of_cond 8 hx (by kernel_rfl) (fun k hk => by cases hk; kernel_rfl) (by kernel_rfl) (laidMet_of_run' 8 (by kernel_rfl) (by kernel_rfl)))) ?_
  intro W base args ds gs before hval hW _ hk _ hL hsh _
  exact contract H enc W base args ds gs before hval hW (hk _ rfl) (gl_of_laid (rest := Rows.traceMatchesSpecUptoRow.laid.drop 3) hsh (by kernel_rfl) hL)

theorem j0 : jf0 Tryz.pinned.checked.prog 3 Tryz.f3 (Rows.OpenSpec.upto Rows.traceMatchesSpecSpec).bare Rows.traceMatchesSpecUptoRow = true := by kernel_rfl
theorem j1 : jf1 Tryz.pinned.checked.prog 3 Tryz.f3 (Rows.OpenSpec.upto Rows.traceMatchesSpecSpec).bare Rows.traceMatchesSpecUptoRow = true := by kernel_rfl
theorem j2 : jf2 Tryz.pinned.checked.prog 3 Tryz.f3 (Rows.OpenSpec.upto Rows.traceMatchesSpecSpec).bare Rows.traceMatchesSpecUptoRow = true := by kernel_rfl
theorem j3 : jf3 Tryz.pinned.checked.prog 3 Tryz.f3 (Rows.OpenSpec.upto Rows.traceMatchesSpecSpec).bare Rows.traceMatchesSpecUptoRow = true := by kernel_rfl
theorem j4 : jf4 Tryz.pinned.checked.prog 3 Tryz.f3 (Rows.OpenSpec.upto Rows.traceMatchesSpecSpec).bare Rows.traceMatchesSpecUptoRow = true := by kernel_rfl
theorem j5 : jf5 Tryz.pinned.checked.prog 3 Tryz.f3 (Rows.OpenSpec.upto Rows.traceMatchesSpecSpec).bare Rows.traceMatchesSpecUptoRow = true := by kernel_rfl
theorem j6 : jf6 Tryz.pinned.checked.prog 3 Tryz.f3 (Rows.OpenSpec.upto Rows.traceMatchesSpecSpec).bare Rows.traceMatchesSpecUptoRow = true := by kernel_rfl
theorem j7 : jf7 Tryz.pinned.checked.prog 3 Tryz.f3 (Rows.OpenSpec.upto Rows.traceMatchesSpecSpec).bare Rows.traceMatchesSpecUptoRow = true := by kernel_rfl
theorem j8 : jf8 Tryz.pinned.checked.prog 3 Tryz.f3 (Rows.OpenSpec.upto Rows.traceMatchesSpecSpec).bare Rows.traceMatchesSpecUptoRow = true := by kernel_rfl
theorem j9 : jf9 Tryz.pinned.checked.prog 3 Tryz.f3 (Rows.OpenSpec.upto Rows.traceMatchesSpecSpec).bare Rows.traceMatchesSpecUptoRow = true := by kernel_rfl
theorem j10 : jf10 Tryz.pinned.checked.prog 3 Tryz.f3 (Rows.OpenSpec.upto Rows.traceMatchesSpecSpec).bare Rows.traceMatchesSpecUptoRow = true := by kernel_rfl
theorem j11 : jf11 Tryz.pinned.checked.prog 3 Tryz.f3 (Rows.OpenSpec.upto Rows.traceMatchesSpecSpec).bare Rows.traceMatchesSpecUptoRow = true := by kernel_rfl
theorem j12 : jf12 Tryz.pinned.checked.prog 3 Tryz.f3 (Rows.OpenSpec.upto Rows.traceMatchesSpecSpec).bare Rows.traceMatchesSpecUptoRow = true := by kernel_rfl
theorem j13 : jf13 Tryz.pinned.checked.prog 3 Tryz.f3 (Rows.OpenSpec.upto Rows.traceMatchesSpecSpec).bare Rows.traceMatchesSpecUptoRow = true := by kernel_rfl
theorem j14 : jf14 Tryz.pinned.checked.prog 3 Tryz.f3 (Rows.OpenSpec.upto Rows.traceMatchesSpecSpec).bare Rows.traceMatchesSpecUptoRow = true := by kernel_rfl
theorem j15 : jf15 Tryz.pinned.checked.prog 3 Tryz.f3 (Rows.OpenSpec.upto Rows.traceMatchesSpecSpec).bare Rows.traceMatchesSpecUptoRow = true := by kernel_rfl
theorem j16 : jf16 Tryz.pinned.checked.prog 3 Tryz.f3 (Rows.OpenSpec.upto Rows.traceMatchesSpecSpec).bare Rows.traceMatchesSpecUptoRow = true := by kernel_rfl
theorem j17 : jf17 Tryz.pinned.checked.prog 3 Tryz.f3 (Rows.OpenSpec.upto Rows.traceMatchesSpecSpec).bare Rows.traceMatchesSpecUptoRow = true := by kernel_rfl
theorem j18 : jf18 Tryz.pinned.checked.prog 3 Tryz.f3 (Rows.OpenSpec.upto Rows.traceMatchesSpecSpec).bare Rows.traceMatchesSpecUptoRow = true := by kernel_rfl
theorem j19 : jf19 Tryz.pinned.checked.prog 3 Tryz.f3 (Rows.OpenSpec.upto Rows.traceMatchesSpecSpec).bare Rows.traceMatchesSpecUptoRow = true := by kernel_rfl
theorem j20 : jf20 Tryz.pinned.checked.prog 3 Tryz.f3 (Rows.OpenSpec.upto Rows.traceMatchesSpecSpec).bare Rows.traceMatchesSpecUptoRow = true := by kernel_rfl
theorem j21 : jf21 Tryz.pinned.checked.prog 3 Tryz.f3 (Rows.OpenSpec.upto Rows.traceMatchesSpecSpec).bare Rows.traceMatchesSpecUptoRow = true := by kernel_rfl
theorem j22 : jf22 Tryz.pinned.checked.prog 3 Tryz.f3 (Rows.OpenSpec.upto Rows.traceMatchesSpecSpec).bare Rows.traceMatchesSpecUptoRow = true := by kernel_rfl
theorem j23 : jf23 Tryz.pinned.checked.prog 3 Tryz.f3 (Rows.OpenSpec.upto Rows.traceMatchesSpecSpec).bare Rows.traceMatchesSpecUptoRow = true := by kernel_rfl
theorem j24 : jf24 Tryz.pinned.checked.prog 3 Tryz.f3 (Rows.OpenSpec.upto Rows.traceMatchesSpecSpec).bare Rows.traceMatchesSpecUptoRow = true := by kernel_rfl
theorem j25 : jf25 Tryz.pinned.checked.prog 3 Tryz.f3 (Rows.OpenSpec.upto Rows.traceMatchesSpecSpec).bare Rows.traceMatchesSpecUptoRow = true := by kernel_rfl
theorem j26 : jf26 Tryz.pinned.checked.prog 3 Tryz.f3 (Rows.OpenSpec.upto Rows.traceMatchesSpecSpec).bare Rows.traceMatchesSpecUptoRow = true := by kernel_rfl
theorem j27 : jf27 Tryz.pinned.checked.prog 3 Tryz.f3 (Rows.OpenSpec.upto Rows.traceMatchesSpecSpec).bare Rows.traceMatchesSpecUptoRow = true := by kernel_rfl
theorem j28 : jf28 Tryz.pinned.checked.prog 3 Tryz.f3 (Rows.OpenSpec.upto Rows.traceMatchesSpecSpec).bare Rows.traceMatchesSpecUptoRow = true := by kernel_rfl
theorem j29 : jf29 Tryz.pinned.checked.prog 3 Tryz.f3 (Rows.OpenSpec.upto Rows.traceMatchesSpecSpec).bare Rows.traceMatchesSpecUptoRow = true := by kernel_rfl
theorem j30 : jf30 Tryz.pinned.checked.prog 3 Tryz.f3 (Rows.OpenSpec.upto Rows.traceMatchesSpecSpec).bare Rows.traceMatchesSpecUptoRow = true := by kernel_rfl
theorem j31 : jf31 Tryz.pinned.checked.prog 3 Tryz.f3 (Rows.OpenSpec.upto Rows.traceMatchesSpecSpec).bare Rows.traceMatchesSpecUptoRow = true := by kernel_rfl
theorem said : Rows.traceMatchesSpecUptoRow.holds Tryz.pinned (Rows.OpenSpec.upto Rows.traceMatchesSpecSpec) :=
  OpenClaim.holds_of_cond 3 Tryz.f3 rfl rfl rfl rfl rfl rfl rfl ⟨rfl, rfl, rfl, rfl, rfl⟩ rfl rfl rfl rfl rfl (by kernel_rfl) Tryz.func3 (joined_of j0 j1 j2 j3 j4 j5 j6 j7 j8 j9 j10 j11 j12 j13 j14 j15 j16 j17 j18 j19 j20 j21 j22 j23 j24 j25 j26 j27 j28 j29 j30 j31)
    (of_decide_eq_true (by kernel_rfl)) (by unfold Func.isWrapper; first | (rw [if_pos (by decide +kernel)]; kernel_rfl) | (rw [if_neg (by decide +kernel)]; exact ⟨rfl, rfl⟩))
    (fun os started H enc _ F => by rw [OpenClaim.pre_eq_preRow]; exact lifted os started H enc F)

theorem plain (f : FuncId) (fn : Func) (hf : Tryz.pinned.checked.prog.funcNamed "posthouse/posthouselaw3.TraceMatchesSpec" = some f) (hfn : Tryz.pinned.checked.prog.funcs[f]? = some fn) :
    false = Tryz.pinned.checked.prog.looks [] ∧ ∀ (j : Nat) t, fn.params[j]? = some t → Tryz.pinned.checked.prog.wantsStandIn t = false := by
  obtain rfl : f = 3 := Option.some.inj ((show Tryz.prog.funcNamed "posthouse/posthouselaw3.TraceMatchesSpec" = some 3 by kernel_rfl).symm.trans hf) |>.symm
  obtain rfl : fn = Tryz.f3 := (Option.some.inj (Tryz.func3.symm.trans hfn)).symm
  refine ⟨by kernel_rfl, fun j t ht => ?_⟩
  rw [Tryz.params3] at ht
  have hm := Array.mem_of_getElem? ht
  simp only [List.mem_toArray, List.mem_cons, List.not_mem_nil, or_false] at hm
  rcases hm with rfl | rfl | rfl | rfl
  · exact (show Tryz.prog.wantsStandIn 25 = false by kernel_rfl)
  · exact (show Tryz.prog.wantsStandIn 9 = false by kernel_rfl)
  · exact (show Tryz.prog.wantsStandIn 9 = false by kernel_rfl)
  · exact (show Tryz.prog.wantsStandIn 3 = false by kernel_rfl)
theorem proved : Rows.TraceMatchesSpecUptoCardSaid :=
  Claim7.holds_tied_plain_at .later [] _ _ _ _ said (fun _ h => by cases h) (by kernel_rfl) (fun _ h => by cases h) traceMatchesSpecUpto_row_tie rfl ⟨rfl, rfl⟩ (by kernel_rfl) rfl plain (by kernel_rfl)
#print axioms proved
end Go.Proofs.YtpbanomkkkongaaGreatDoor.traceMatchesSpec
