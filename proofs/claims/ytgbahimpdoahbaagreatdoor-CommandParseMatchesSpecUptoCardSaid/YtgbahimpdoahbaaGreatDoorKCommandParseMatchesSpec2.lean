/- The law CommandParseMatchesSpec holds for every input of bulk up to the given bound: it returns true and leaves its arguments as they were. Written by program. -/
import Derived.Test.YtgbahimpdoahbaaGreatDoorKCommandParseMatchesSpec1
import Derived.Test.YtgbahimpdoahbaaGreatDoorShelf
set_option linter.unusedVariables false
set_option linter.unusedSimpArgs false
namespace Go.Proofs.YtgbahimpdoahbaaGreatDoor
open Go.RowKit
set_option maxRecDepth 100000
set_option maxHeartbeats 40000000
set_option linter.unusedVariables false
theorem basic_Letter_run (a0 : UInt8) (r : Bool) (hr : basic_Letter a0 = some r) : Run Tryz.prog 45 [.u8 a0] (.bo r) := by
 unfold basic_Letter at hr
 refine rf (fn := Tryz.f45) ⟨Tryz.func45, rfl, by kernel_rfl⟩ rfl (fun _ => rfl) fun g0 hg => ?_
 refine rn tk 5 rfl ?_
 refine jb hr (fun j1 => [(2, .bo j1)]) (fun j1 => []) (fun j1 hr => ?_) (fun j1 hr => ?_)
 ·
  refine rn tk 4 rfl ?_
  refine bs 5 hr rfl (fun c2 hr => ?_) (fun c2 hr => ?_)
  ·
   refine rn tk 4 rfl ?_
   refine bs 9 hr rfl (fun c3 hr => ?_) (fun c3 hr => ?_)
   ·
    refine rn tk 17 rfl ?_
    cases hr
    exact jn _ rfl rfl rfl
   ·
    refine rn tk 3 rfl ?_
    refine bs 12 hr rfl (fun c4 hr => ?_) (fun c4 hr => ?_)
    ·
     refine rn tk 5 rfl ?_
     refine bs 17 hr rfl (fun c5 hr => ?_) (fun c5 hr => ?_)
     ·
      refine rn tk 9 rfl ?_
      cases hr
      exact jn _ rfl rfl rfl
     ·
      refine rn tk 3 rfl ?_
      refine bs 20 hr rfl (fun c6 hr => ?_) (fun c6 hr => ?_)
      ·
       refine rn tk 6 rfl ?_
       cases hr
       exact jn _ rfl rfl rfl
      ·
       refine rn tk 6 rfl ?_
       cases hr
       exact jn _ rfl rfl rfl
    ·
     refine rn tk 8 rfl ?_
     refine bs 20 hr rfl (fun c7 hr => ?_) (fun c7 hr => ?_)
     ·
      refine rn tk 6 rfl ?_
      cases hr
      exact jn _ rfl rfl rfl
     ·
      refine rn tk 6 rfl ?_
      cases hr
      exact jn _ rfl rfl rfl
  ·
   refine rn tk 7 rfl ?_
   refine bs 12 hr rfl (fun c8 hr => ?_) (fun c8 hr => ?_)
   ·
    refine rn tk 5 rfl ?_
    refine bs 17 hr rfl (fun c9 hr => ?_) (fun c9 hr => ?_)
    ·
     refine rn tk 9 rfl ?_
     cases hr
     exact jn _ rfl rfl rfl
    ·
     refine rn tk 3 rfl ?_
     refine bs 20 hr rfl (fun c10 hr => ?_) (fun c10 hr => ?_)
     ·
      refine rn tk 6 rfl ?_
      cases hr
      exact jn _ rfl rfl rfl
     ·
      refine rn tk 6 rfl ?_
      cases hr
      exact jn _ rfl rfl rfl
   ·
    refine rn tk 8 rfl ?_
    refine bs 20 hr rfl (fun c11 hr => ?_) (fun c11 hr => ?_)
    ·
     refine rn tk 6 rfl ?_
     cases hr
     exact jn _ rfl rfl rfl
    ·
     refine rn tk 6 rfl ?_
     cases hr
     exact jn _ rfl rfl rfl
 ·
  refine rn tk 1 rfl ?_
  cases hr
  exact kr tk (.inr rfl) rfl rfl
theorem basic_Name_run (a0 : Str) (r : Bool) (hr : basic_Name a0 = some r) : Run Tryz.prog 26 [.s a0] (.bo r) := by
 unfold basic_Name at hr
 refine rf (fn := Tryz.f26) ⟨Tryz.func26, rfl, by kernel_rfl⟩ rfl (fun _ => rfl) fun g0 hg => ?_
 refine rn tk 5 rfl ?_
 refine jb hr (fun j1 => [(2, .bo j1)]) (fun j1 => []) (fun j1 hr => ?_) (fun j1 hr => ?_)
 ·
  refine rn tk 4 rfl ?_
  refine bs 5 hr rfl (fun c2 hr => ?_) (fun c2 hr => ?_)
  ·
   refine rn tk 5 rfl ?_
   refine bs 10 hr rfl (fun c3 hr => ?_) (fun c3 hr => ?_)
   ·
    refine rn tk 1 rfl ?_
    refine ug rfl rfl rfl ?_
    refine ct hr (fun j4 => [(10, .bo true), (12, .bo j4)]) (fun j4 => []) (fun j4 hr jump4 => ?_) (fun j4 hr => ?_)
    ·
     refine il (fn := Tryz.f43) (args := [.s a0, .fn (.func 44) [] []]) 400000 499999 [(10, .bo true)] rfl ⟨Tryz.func43, rfl, by kernel_rfl⟩ rfl rfl rfl fun T4 ds4 => ?_
     refine rn tk 14 rfl ?_
     refine al2 hr (fun s5 => [(0, .s a0), (1, .fn (.func 44) [] []), (7, .i ((a0.length : Int))), (8, .i s5)]) (fun s5 => [(499999, .sus g0.w.heap.size ds4), (400010, .hold (.bo true) (T4.getD 10 undef))]) (.exit 0) (fun b6 => []) (fun b6 => [(499999, .sus g0.w.heap.size ds4), (400010, .hold (.bo true) (T4.getD 10 undef))]) .ret (fun b7 => [(4, .bo false)]) (fun b7 => [(499999, .sus g0.w.heap.size ds4), (400010, .hold (.bo true) (T4.getD 10 undef))]) rfl rfl (fun s5 x9 hr => ?_) (fun b6 hr => ?_) (fun b7 hr => ?_)
     ·
      unfold basic_Name_l1 at hr
      refine rn tk 6 rfl ?_
      refine ac 9 hr rfl (fun c10 hr => ?_) (fun c10 hr => ?_)
      ·
       refine rn tk 15 rfl ?_
       obtain ⟨v11, h12, hr⟩ := bind_some hr
       refine ws tk h12 rfl rfl rfl rfl ?_
       refine il (fn := Tryz.f44) (args := [.u8 v11]) 600000 699999 [(0, .s a0), (1, .fn (.func 44) [] []), (7, .i ((a0.length : Int))), (8, .i s5)] rfl ⟨Tryz.func44, rfl, by kernel_rfl⟩ rfl rfl rfl fun T6 ds6 => ?_
       refine rn tk 5 rfl ?_
       refine jb hr (fun j13 => [(2, .bo j13)]) (fun j13 => [(699999, .sus g0.w.heap.size ds6), (600000, .hold (.s a0) (T6.getD 0 undef)), (600001, .hold (.fn (.func 44) [] []) (T6.getD 1 undef)), (600007, .hold (.i ((a0.length : Int))) (T6.getD 7 undef)), (600008, .hold (.i s5) (T6.getD 8 undef)), (499999, .sus g0.w.heap.size ds4), (400010, .hold (.bo true) (T4.getD 10 undef))]) (fun j13 hr => ?_) (fun j13 hr => ?_)
       ·
        refine rn tk 2 rfl ?_
        obtain ⟨v14, h15, hr⟩ := bind_some hr
        refine cl (basic_Letter_run _ _ h15) rfl rfl ?_
        refine rn tk 1 rfl ?_
        refine bs 5 hr rfl (fun c16 hr => ?_) (fun c16 hr => ?_)
        ·
         refine rn tk 13 rfl ?_
         cases hr
         exact jn _ rfl rfl rfl
        ·
         refine rn tk 4 rfl ?_
         refine bs 9 hr rfl (fun c17 hr => ?_) (fun c17 hr => ?_)
         ·
          refine rn tk 9 rfl ?_
          cases hr
          exact jn _ rfl rfl rfl
         ·
          refine rn tk 4 rfl ?_
          refine bs 13 hr rfl (fun c18 hr => ?_) (fun c18 hr => ?_)
          ·
           refine rn tk 5 rfl ?_
           cases hr
           exact jn _ rfl rfl rfl
          ·
           refine rn tk 5 rfl ?_
           cases hr
           exact jn _ rfl rfl rfl
       ·
        refine rn tk 1 rfl ?_
        refine ie tk [.bo j13] [(0, .s a0), (1, .fn (.func 44) [] []), (7, .i ((a0.length : Int))), (8, .i s5)] [(499999, .sus g0.w.heap.size ds4), (400010, .hold (.bo true) (T4.getD 10 undef))] (.inr rfl) rfl rfl rfl rfl (hO ?_)
        refine rn tk 3 rfl ?_
        refine ac 16 hr rfl (fun c19 hr => ?_) (fun c19 hr => ?_)
        ·
         refine rn tk 8 rfl ?_
         cases hr
         exact ato rfl rfl rfl rfl
        ·
         refine rn tk 7 rfl ?_
         cases hr
         exact atc rfl rfl
      ·
       refine rn tk 2 rfl ?_
       cases hr
       exact ato rfl rfl rfl rfl
     ·
      refine rn tk 8 rfl ?_
      refine ie tk [.bo true] [(10, .bo true)] [] (.inr rfl) rfl rfl rfl rfl ?_
      cases hr
      exact jump4 _ _ rfl rfl
     ·
      refine rn tk 2 rfl ?_
      refine ie tk [.bo false] [(10, .bo true)] [] (.inr rfl) rfl rfl rfl rfl ?_
      cases hr
      exact jump4 _ _ rfl rfl
    ·
     refine rn tk 3 rfl ?_
     cases hr
     exact jn _ rfl rfl rfl
   ·
    refine rn tk 5 rfl ?_
    cases hr
    exact jn _ rfl rfl rfl
  ·
   refine rn tk 10 rfl ?_
   cases hr
   exact jn _ rfl rfl rfl
 ·
  refine rn tk 1 rfl ?_
  cases hr
  exact kr tk (.inr rfl) rfl rfl
theorem command_used_run (a0 : TCommand) (r : TCommand) (hr : command_used a0 = some r) : Run Tryz.prog 25 [.agg [.i a0.Verb, .s a0.Name, .s a0.Address, .i a0.Size, .i a0.Notify, .bo a0.Last]] (.agg [.i r.Verb, .s r.Name, .s r.Address, .i r.Size, .i r.Notify, .bo r.Last]) := by
 unfold command_used at hr
 refine rf (fn := Tryz.f25) ⟨Tryz.func25, rfl, by kernel_rfl⟩ rfl (fun _ => rfl) fun g0 hg => ?_
 refine rn tk 15 rfl ?_
 refine jb hr (fun j1 => [(2, .ptr 2 0), (3, .ptr 3 0)]) (fun j1 => [(3, .cells [.i a0.Verb, .s j1.1, .s j1.2.1, .i j1.2.2.1, .i j1.2.2.2.1, .bo j1.2.2.2.2]), (2, .cells [.i 0, .s (([] : Str)), .s (([] : Str)), .i 0, .i 0, .bo false])]) (fun j1 hr => ?_) (fun j1 hr => ?_)
 ·
  refine rn tk 13 rfl ?_
  refine ac 9 hr rfl (fun c2 hr => ?_) (fun c2 hr => ?_)
  ·
   refine rn tk 7 rfl ?_
   cases hr
   exact jn _ rfl rfl rfl
  ·
   refine rn tk 6 rfl ?_
   refine ac 14 hr rfl (fun c3 hr => ?_) (fun c3 hr => ?_)
   ·
    refine drX 5 6 4 8 [2, 3] [(20, .ptr 3 2), (19, .i a0.Size), (18, .ptr 1 3), (17, .s a0.Address), (16, .ptr 1 2)] [(2, .ptr 2 0), (3, .ptr 3 0), (19, .i a0.Size)] [(3, .cells [.i a0.Verb, .s (([] : Str)), .s a0.Address, .i 0, .i 0, .bo false]), (2, .cells [.i 0, .s (([] : Str)), .s (([] : Str)), .i 0, .i 0, .bo false]), (1, .cells [.i a0.Verb, .s a0.Name, .s a0.Address, .i a0.Size, .i a0.Notify, .bo a0.Last])] tk mixed (by kernel_rfl) rfl rfl rfl (pqX tk rfl (.plain rfl) (pqX tk rfl (.plain rfl) (pqX tk rfl (.plain rfl) (pqX tk rfl (.plain rfl) (pqX tk rfl (.plain rfl) .nil))))) rfl rfl rfl rfl (by kernel_rfl) ?_
    refine rn tk 4 rfl ?_
    cases hr
    exact jn _ rfl rfl rfl
   ·
    refine rn tk 6 rfl ?_
    refine ac 22 hr rfl (fun c4 hr => ?_) (fun c4 hr => ?_)
    ·
     refine drX 5 6 4 8 [2, 3] [(28, .ptr 3 2), (27, .i a0.Notify), (26, .ptr 1 4), (25, .s a0.Address), (24, .ptr 1 2)] [(2, .ptr 2 0), (3, .ptr 3 0), (27, .i a0.Notify)] [(3, .cells [.i a0.Verb, .s (([] : Str)), .s a0.Address, .i 0, .i 0, .bo false]), (2, .cells [.i 0, .s (([] : Str)), .s (([] : Str)), .i 0, .i 0, .bo false]), (1, .cells [.i a0.Verb, .s a0.Name, .s a0.Address, .i a0.Size, .i a0.Notify, .bo a0.Last])] tk mixed (by kernel_rfl) rfl rfl rfl (pqX tk rfl (.plain rfl) (pqX tk rfl (.plain rfl) (pqX tk rfl (.plain rfl) (pqX tk rfl (.plain rfl) (pqX tk rfl (.plain rfl) .nil))))) rfl rfl rfl rfl (by kernel_rfl) ?_
     refine rn tk 4 rfl ?_
     cases hr
     exact jn _ rfl rfl rfl
    ·
     refine rn tk 6 rfl ?_
     refine ac 30 hr rfl (fun c5 hr => ?_) (fun c5 hr => ?_)
     ·
      refine drX 5 6 4 8 [2, 3] [(36, .ptr 3 3), (35, .bo a0.Last), (34, .ptr 1 5), (33, .i a0.Size), (32, .ptr 1 3)] [(2, .ptr 2 0), (3, .ptr 3 0), (35, .bo a0.Last)] [(3, .cells [.i a0.Verb, .s (([] : Str)), .s (([] : Str)), .i a0.Size, .i 0, .bo false]), (2, .cells [.i 0, .s (([] : Str)), .s (([] : Str)), .i 0, .i 0, .bo false]), (1, .cells [.i a0.Verb, .s a0.Name, .s a0.Address, .i a0.Size, .i a0.Notify, .bo a0.Last])] tk mixed (by kernel_rfl) rfl rfl rfl (pqX tk rfl (.plain rfl) (pqX tk rfl (.plain rfl) (pqX tk rfl (.plain rfl) (pqX tk rfl (.plain rfl) (pqX tk rfl (.plain rfl) .nil))))) rfl rfl rfl rfl (by kernel_rfl) ?_
      refine rn tk 4 rfl ?_
      cases hr
      exact jn _ rfl rfl rfl
     ·
      refine rn tk 2 rfl ?_
      cases hr
      exact jn _ rfl rfl rfl
 ·
  refine rn tk 7 rfl ?_
  cases hr
  exact kr tk (.inr rfl) rfl rfl
end Go.Proofs.YtgbahimpdoahbaaGreatDoor

/- Library functions compute what their Lean functions do. -/
namespace Go.Proofs.YtgbahimpdoahbaaGreatDoor
open Go.RowKit
set_option maxRecDepth 100000
theorem old_drewN (g : G) (q : Nat) : Old (fun _ => False) g ⟨g.w.drewN q, g.u, g.loc⟩ :=
  ⟨rfl, rfl, rfl, ⟨Nat.le_refl _, fun _ _ => Nat.le_refl _, fun _ _ _ _ => rfl, fun _ h => h⟩, fun _ _ _ => ⟨rfl, rfl⟩⟩
theorem str_arg {g : G} {s : Str} {v : Value} (h : Rel g (.s s) v) : v = .string (strB s) := rel_b h
theorem strings_IndexByte_run (s : Str) (c : UInt8) (r : Int) (hr : strings_IndexByte s c = some r) : Run Tryz.prog 58 [.s s, .u8 c] (.i r) := by
  unfold strings_IndexByte at hr
  cases hr
  refine ⟨⟨_, _, ⟨Tryz.func58, rfl, by kernel_rfl⟩⟩, fun g vs hw hg ha => ?_⟩
  obtain ⟨hsz, hrel⟩ := ha
  obtain ⟨l⟩ := vs
  match l, hsz with
  | [x, y], _ =>
    obtain rfl := str_arg (hrel 0 _ rfl)
    have e2 : y = .int .u8 (c.toNat : Int) := rel_b (hrel 1 _ rfl)
    subst e2
    refine callsIn_wide.2 ((Tryz.strings_IndexByte (strB s) (c.toNat : Int) g.w).mono ?_)
    rintro e w' ⟨rfl, rfl⟩
    refine ⟨g, _, rfl, rfl, Old.refl _ g, hw, rfl, ?_⟩
    simp [strB]
    exact .pv (.b rfl)
end Go.Proofs.YtgbahimpdoahbaaGreatDoor

/- Library functions compute what their Lean functions do: parts of strings. -/
namespace Go.Proofs.YtgbahimpdoahbaaGreatDoor
open Go.RowKit
set_option maxRecDepth 100000
theorem strings_Contains_run (s t : Str) (r : Bool) (hr : strings_Contains s t = some r) : Run Tryz.prog 74 [.s s, .s t] (.bo r) := by
  unfold strings_Contains at hr
  split at hr
  case isFalse => cases hr
  rename_i hlen
  cases hr
  refine ⟨⟨_, _, ⟨Tryz.func74, rfl, by kernel_rfl⟩⟩, fun g vs hw hg ha => ?_⟩
  obtain ⟨hsz, hrel⟩ := ha
  obtain ⟨l⟩ := vs
  match l, hsz with
  | [x, y], _ =>
    obtain rfl := str_arg (hrel 0 _ rfl)
    obtain rfl := str_arg (hrel 1 _ rfl)
    obtain ⟨_, _, m, hm⟩ := hg.1 (1, 0) (by simp [globs])
    refine callsIn_wide.2 ((Tryz.strings_Contains (strB s) (strB t) m g.w (by rw [strB_size]; exact hlen) hm).mono ?_)
    rintro e w' ⟨rfl, rfl⟩
    exact ⟨g, _, rfl, rfl, Old.refl _ g, hw, rfl, .pv (.b rfl)⟩
theorem strings_Cut_run (s t : Str) (r : Str × Str × Bool) (hr : strings_Cut s t = some r) : Run Tryz.prog 56 [.s s, .s t] (.tup [.s r.1, .s r.2.1, .bo r.2.2]) := by
  unfold strings_Cut at hr
  split at hr
  case isFalse => cases hr
  rename_i hlen
  cases hr
  refine ⟨⟨_, _, ⟨Tryz.func56, rfl, by kernel_rfl⟩⟩, fun g vs hw hg ha => ?_⟩
  obtain ⟨hsz, hrel⟩ := ha
  obtain ⟨l⟩ := vs
  match l, hsz with
  | [x, y], _ =>
    obtain rfl := str_arg (hrel 0 _ rfl)
    obtain rfl := str_arg (hrel 1 _ rfl)
    obtain ⟨_, _, m, hm⟩ := hg.1 (1, 0) (by simp [globs])
    refine callsIn_wide.2 ((Tryz.strings_Cut (strB s) (strB t) m g.w (by rw [strB_size]; exact hlen) hm).mono ?_)
    rintro e w' ⟨rfl, q, rfl⟩
    refine ⟨⟨g.w.drewN q, g.u, g.loc⟩, _, rfl, rfl, old_drewN g q, hw, rfl, .tup rfl fun i c hi => ?_⟩
    match i, hi with
    | 0, rfl => exact .pv (.b rfl)
    | 1, rfl => exact .pv (.b rfl)
    | 2, rfl => exact .pv (.b rfl)
end Go.Proofs.YtgbahimpdoahbaaGreatDoor

namespace Go.Proofs.YtgbahimpdoahbaaGreatDoor
open Go.RowKit
set_option maxRecDepth 100000
set_option maxHeartbeats 40000000
set_option linter.unusedVariables false
theorem internal_stringslite_HasPrefix_run (a0 : Str) (a1 : Str) (r : Bool) (hr : internal_stringslite_HasPrefix a0 a1 = some r) : Run Tryz.prog 87 [.s a0, .s a1] (.bo r) := by
 unfold internal_stringslite_HasPrefix at hr
 refine rf (fn := Tryz.f87) ⟨Tryz.func87, rfl, by kernel_rfl⟩ rfl (fun _ => rfl) fun g0 hg => ?_
 refine rn tk 5 rfl ?_
 refine jb hr (fun j1 => [(4, .bo j1)]) (fun j1 => []) (fun j1 hr => ?_) (fun j1 hr => ?_)
 ·
  refine rn tk 7 rfl ?_
  refine bs 10 hr rfl (fun c2 hr => ?_) (fun c2 hr => ?_)
  ·
   refine rn tk 3 rfl ?_
   obtain ⟨v3, h4, hr⟩ := bind_some hr
   refine ug rfl rfl rfl ?_
   refine wscH tk h4 rfl rfl rfl rfl ?_
   refine rn tk 5 rfl ?_
   cases hr
   exact jn _ rfl rfl rfl
  ·
   refine rn tk 9 rfl ?_
   cases hr
   exact jn _ rfl rfl rfl
 ·
  refine rn tk 1 rfl ?_
  cases hr
  exact kr tk (.inr rfl) rfl rfl
theorem strings_HasPrefix_run (a0 : Str) (a1 : Str) (r : Bool) (hr : strings_HasPrefix a0 a1 = some r) : Run Tryz.prog 72 [.s a0, .s a1] (.bo r) := by
 unfold strings_HasPrefix at hr
 refine rf (fn := Tryz.f72) ⟨Tryz.func72, rfl, by kernel_rfl⟩ rfl (fun _ => rfl) fun g0 hg => ?_
 refine rn tk 9 rfl ?_
 obtain ⟨v1, h2, hr⟩ := bind_some hr
 refine cl (internal_stringslite_HasPrefix_run _ _ _ h2) rfl rfl ?_
 refine rn tk 4 rfl ?_
 cases hr
 exact kr tk (.inr rfl) rfl rfl
theorem internal_stringslite_HasSuffix_run (a0 : Str) (a1 : Str) (r : Bool) (hr : internal_stringslite_HasSuffix a0 a1 = some r) : Run Tryz.prog 88 [.s a0, .s a1] (.bo r) := by
 unfold internal_stringslite_HasSuffix at hr
 refine rf (fn := Tryz.f88) ⟨Tryz.func88, rfl, by kernel_rfl⟩ rfl (fun _ => rfl) fun g0 hg => ?_
 refine rn tk 5 rfl ?_
 refine jb hr (fun j1 => [(4, .bo j1)]) (fun j1 => []) (fun j1 hr => ?_) (fun j1 hr => ?_)
 ·
  refine rn tk 7 rfl ?_
  refine bs 10 hr rfl (fun c2 hr => ?_) (fun c2 hr => ?_)
  ·
   refine rn tk 6 rfl ?_
   obtain ⟨v3, h4, hr⟩ := bind_some hr
   refine ug rfl rfl rfl ?_
   refine wscL tk h4 rfl rfl rfl rfl ?_
   refine rn tk 5 rfl ?_
   cases hr
   exact jn _ rfl rfl rfl
  ·
   refine rn tk 12 rfl ?_
   cases hr
   exact jn _ rfl rfl rfl
 ·
  refine rn tk 1 rfl ?_
  cases hr
  exact kr tk (.inr rfl) rfl rfl
theorem strings_HasSuffix_run (a0 : Str) (a1 : Str) (r : Bool) (hr : strings_HasSuffix a0 a1 = some r) : Run Tryz.prog 73 [.s a0, .s a1] (.bo r) := by
 unfold strings_HasSuffix at hr
 refine rf (fn := Tryz.f73) ⟨Tryz.func73, rfl, by kernel_rfl⟩ rfl (fun _ => rfl) fun g0 hg => ?_
 refine rn tk 9 rfl ?_
 obtain ⟨v1, h2, hr⟩ := bind_some hr
 refine cl (internal_stringslite_HasSuffix_run _ _ _ h2) rfl rfl ?_
 refine rn tk 4 rfl ?_
 cases hr
 exact kr tk (.inr rfl) rfl rfl
theorem envelope_Domain_run (a0 : Str) (r : Bool) (hr : envelope_Domain a0 = some r) : Run Tryz.prog 59 [.s a0] (.bo r) := by
 unfold envelope_Domain at hr
 refine rf (fn := Tryz.f59) ⟨Tryz.func59, rfl, by kernel_rfl⟩ rfl (fun _ => rfl) fun g0 hg => ?_
 refine rn tk 10 rfl ?_
 refine jb hr (fun j1 => [(2, .bo j1)]) (fun j1 => []) (fun j1 hr => ?_) (fun j1 hr => ?_)
 ·
  refine rn tk 4 rfl ?_
  refine bs 6 hr rfl (fun c2 hr => ?_) (fun c2 hr => ?_)
  ·
   refine rn tk 5 rfl ?_
   refine bs 11 hr rfl (fun c3 hr => ?_) (fun c3 hr => ?_)
   ·
    refine rn tk 2 rfl ?_
    refine ug rfl rfl rfl ?_
    refine ct hr (fun j4 => [(0, .s a0), (11, .bo true), (14, .bo j4)]) (fun j4 => []) (fun j4 hr jump4 => ?_) (fun j4 hr => ?_)
    ·
     refine il (fn := Tryz.f43) (args := [.s a0, .fn (.func 71) [] []]) 400000 499999 [(0, .s a0), (11, .bo true)] rfl ⟨Tryz.func43, rfl, by kernel_rfl⟩ rfl rfl rfl fun T4 ds4 => ?_
     refine rn tk 14 rfl ?_
     refine al2 hr (fun s5 => [(0, .s a0), (1, .fn (.func 71) [] []), (7, .i ((a0.length : Int))), (8, .i s5)]) (fun s5 => [(499999, .sus g0.w.heap.size ds4), (400000, .hold (.s a0) (T4.getD 0 undef)), (400011, .hold (.bo true) (T4.getD 11 undef))]) (.exit 0) (fun b6 => []) (fun b6 => [(499999, .sus g0.w.heap.size ds4), (400000, .hold (.s a0) (T4.getD 0 undef)), (400011, .hold (.bo true) (T4.getD 11 undef))]) .ret (fun b7 => [(4, .bo false)]) (fun b7 => [(499999, .sus g0.w.heap.size ds4), (400000, .hold (.s a0) (T4.getD 0 undef)), (400011, .hold (.bo true) (T4.getD 11 undef))]) rfl rfl (fun s5 x9 hr => ?_) (fun b6 hr => ?_) (fun b7 hr => ?_)
     ·
      unfold envelope_Domain_l1 at hr
      refine rn tk 6 rfl ?_
      refine ac 9 hr rfl (fun c10 hr => ?_) (fun c10 hr => ?_)
      ·
       refine rn tk 15 rfl ?_
       obtain ⟨v11, h12, hr⟩ := bind_some hr
       refine ws tk h12 rfl rfl rfl rfl ?_
       refine il (fn := Tryz.f71) (args := [.u8 v11]) 600000 699999 [(0, .s a0), (1, .fn (.func 71) [] []), (7, .i ((a0.length : Int))), (8, .i s5)] rfl ⟨Tryz.func71, rfl, by kernel_rfl⟩ rfl rfl rfl fun T6 ds6 => ?_
       refine rn tk 5 rfl ?_
       refine jb hr (fun j13 => [(2, .bo j13)]) (fun j13 => [(699999, .sus g0.w.heap.size ds6), (600000, .hold (.s a0) (T6.getD 0 undef)), (600001, .hold (.fn (.func 71) [] []) (T6.getD 1 undef)), (600007, .hold (.i ((a0.length : Int))) (T6.getD 7 undef)), (600008, .hold (.i s5) (T6.getD 8 undef)), (499999, .sus g0.w.heap.size ds4), (400000, .hold (.s a0) (T4.getD 0 undef)), (400011, .hold (.bo true) (T4.getD 11 undef))]) (fun j13 hr => ?_) (fun j13 hr => ?_)
       ·
        refine rn tk 4 rfl ?_
        refine bs 5 hr rfl (fun c14 hr => ?_) (fun c14 hr => ?_)
        ·
         refine rn tk 4 rfl ?_
         refine bs 9 hr rfl (fun c15 hr => ?_) (fun c15 hr => ?_)
         ·
          refine rn tk 17 rfl ?_
          cases hr
          exact jn _ rfl rfl rfl
         ·
          refine rn tk 3 rfl ?_
          refine bs 12 hr rfl (fun c16 hr => ?_) (fun c16 hr => ?_)
          ·
           refine rn tk 5 rfl ?_
           refine bs 17 hr rfl (fun c17 hr => ?_) (fun c17 hr => ?_)
           ·
            refine rn tk 9 rfl ?_
            cases hr
            exact jn _ rfl rfl rfl
           ·
            refine rn tk 4 rfl ?_
            refine bs 21 hr rfl (fun c18 hr => ?_) (fun c18 hr => ?_)
            ·
             refine rn tk 5 rfl ?_
             cases hr
             exact jn _ rfl rfl rfl
            ·
             refine rn tk 5 rfl ?_
             cases hr
             exact jn _ rfl rfl rfl
          ·
           refine rn tk 9 rfl ?_
           refine bs 21 hr rfl (fun c19 hr => ?_) (fun c19 hr => ?_)
           ·
            refine rn tk 5 rfl ?_
            cases hr
            exact jn _ rfl rfl rfl
           ·
            refine rn tk 5 rfl ?_
            cases hr
            exact jn _ rfl rfl rfl
        ·
         refine rn tk 7 rfl ?_
         refine bs 12 hr rfl (fun c20 hr => ?_) (fun c20 hr => ?_)
         ·
          refine rn tk 5 rfl ?_
          refine bs 17 hr rfl (fun c21 hr => ?_) (fun c21 hr => ?_)
          ·
           refine rn tk 9 rfl ?_
           cases hr
           exact jn _ rfl rfl rfl
          ·
           refine rn tk 4 rfl ?_
           refine bs 21 hr rfl (fun c22 hr => ?_) (fun c22 hr => ?_)
           ·
            refine rn tk 5 rfl ?_
            cases hr
            exact jn _ rfl rfl rfl
           ·
            refine rn tk 5 rfl ?_
            cases hr
            exact jn _ rfl rfl rfl
         ·
          refine rn tk 9 rfl ?_
          refine bs 21 hr rfl (fun c23 hr => ?_) (fun c23 hr => ?_)
          ·
           refine rn tk 5 rfl ?_
           cases hr
           exact jn _ rfl rfl rfl
          ·
           refine rn tk 5 rfl ?_
           cases hr
           exact jn _ rfl rfl rfl
       ·
        refine rn tk 1 rfl ?_
        refine ie tk [.bo j13] [(0, .s a0), (1, .fn (.func 71) [] []), (7, .i ((a0.length : Int))), (8, .i s5)] [(499999, .sus g0.w.heap.size ds4), (400000, .hold (.s a0) (T4.getD 0 undef)), (400011, .hold (.bo true) (T4.getD 11 undef))] (.inr rfl) rfl rfl rfl rfl (hO ?_)
        refine rn tk 3 rfl ?_
        refine ac 16 hr rfl (fun c24 hr => ?_) (fun c24 hr => ?_)
        ·
         refine rn tk 8 rfl ?_
         cases hr
         exact ato rfl rfl rfl rfl
        ·
         refine rn tk 7 rfl ?_
         cases hr
         exact atc rfl rfl
      ·
       refine rn tk 2 rfl ?_
       cases hr
       exact ato rfl rfl rfl rfl
     ·
      refine rn tk 8 rfl ?_
      refine ie tk [.bo true] [(0, .s a0), (11, .bo true)] [] (.inr rfl) rfl rfl rfl rfl ?_
      cases hr
      exact jump4 _ _ rfl rfl
     ·
      refine rn tk 2 rfl ?_
      refine ie tk [.bo false] [(0, .s a0), (11, .bo true)] [] (.inr rfl) rfl rfl rfl rfl ?_
      cases hr
      exact jump4 _ _ rfl rfl
    ·
     refine rn tk 2 rfl ?_
     refine bs 16 hr rfl (fun c25 hr => ?_) (fun c25 hr => ?_)
     ·
      refine rn tk 1 rfl ?_
      obtain ⟨v26, h27, hr⟩ := bind_some hr
      refine ug rfl rfl rfl ?_
      refine cl (strings_HasPrefix_run _ _ _ h27) rfl rfl ?_
      refine rn tk 3 rfl ?_
      refine bs 21 hr rfl (fun c28 hr => ?_) (fun c28 hr => ?_)
      ·
       refine rn tk 1 rfl ?_
       obtain ⟨v29, h30, hr⟩ := bind_some hr
       refine ug rfl rfl rfl ?_
       refine cl (strings_HasSuffix_run _ _ _ h30) rfl rfl ?_
       refine rn tk 3 rfl ?_
       refine bs 26 hr rfl (fun c31 hr => ?_) (fun c31 hr => ?_)
       ·
        refine rn tk 1 rfl ?_
        obtain ⟨v32, h33, hr⟩ := bind_some hr
        refine ug rfl rfl rfl ?_
        refine cl (strings_Contains_run _ _ _ h33) rfl rfl ?_
        refine rn tk 4 rfl ?_
        cases hr
        exact jn _ rfl rfl rfl
       ·
        refine rn tk 6 rfl ?_
        cases hr
        exact jn _ rfl rfl rfl
      ·
       refine rn tk 11 rfl ?_
       cases hr
       exact jn _ rfl rfl rfl
     ·
      refine rn tk 16 rfl ?_
      cases hr
      exact jn _ rfl rfl rfl
   ·
    refine rn tk 21 rfl ?_
    cases hr
    exact jn _ rfl rfl rfl
  ·
   refine rn tk 26 rfl ?_
   cases hr
   exact jn _ rfl rfl rfl
 ·
  refine rn tk 1 rfl ?_
  cases hr
  exact kr tk (.inr rfl) rfl rfl
theorem envelope_Split_run (a0 : Str) (r : Str × Str × Bool) (hr : envelope_Split a0 = some r) : Run Tryz.prog 46 [.s a0] (.tup [.s r.1, .s r.2.1, .bo r.2.2]) := by
 unfold envelope_Split at hr
 refine rf (fn := Tryz.f46) ⟨Tryz.func46, rfl, by kernel_rfl⟩ rfl (fun _ => rfl) fun g0 hg => ?_
 refine rn tk 10 rfl ?_
 obtain ⟨v1, h2, hr⟩ := bind_some hr
 refine cl (strings_Cut_run _ _ _ h2) rfl rfl ?_
 refine rn tk 14 rfl ?_
 refine jb hr (fun j3 => [(2, .s v1.1), (3, .s v1.2.1), (4, .bo j3)]) (fun j3 => []) (fun j3 hr => ?_) (fun j3 hr => ?_)
 ·
  refine rn tk 5 rfl ?_
  refine bs 15 hr rfl (fun c4 hr => ?_) (fun c4 hr => ?_)
  ·
   refine rn tk 4 rfl ?_
   refine bs 19 hr rfl (fun c5 hr => ?_) (fun c5 hr => ?_)
   ·
    refine rn tk 5 rfl ?_
    refine bs 24 hr rfl (fun c6 hr => ?_) (fun c6 hr => ?_)
    ·
     refine rn tk 2 rfl ?_
     refine ug rfl rfl rfl ?_
     refine ct hr (fun j7 => [(3, .s v1.2.1), (12, .s v1.1), (13, .s v1.2.1), (24, .bo true), (27, .bo j7)]) (fun j7 => []) (fun j7 hr jump4 => ?_) (fun j7 hr => ?_)
     ·
      refine il (fn := Tryz.f43) (args := [.s v1.1, .fn (.func 57) [] []]) 400000 499999 [(3, .s v1.2.1), (12, .s v1.1), (13, .s v1.2.1), (24, .bo true)] rfl ⟨Tryz.func43, rfl, by kernel_rfl⟩ rfl rfl rfl fun T4 ds4 => ?_
      refine rn tk 14 rfl ?_
      refine al2 hr (fun s8 => [(0, .s v1.1), (1, .fn (.func 57) [] []), (7, .i ((v1.1.length : Int))), (8, .i s8)]) (fun s8 => [(499999, .sus g0.w.heap.size ds4), (400003, .hold (.s v1.2.1) (T4.getD 3 undef)), (400012, .hold (.s v1.1) (T4.getD 12 undef)), (400013, .hold (.s v1.2.1) (T4.getD 13 undef)), (400024, .hold (.bo true) (T4.getD 24 undef))]) (.exit 0) (fun b9 => []) (fun b9 => [(499999, .sus g0.w.heap.size ds4), (400003, .hold (.s v1.2.1) (T4.getD 3 undef)), (400012, .hold (.s v1.1) (T4.getD 12 undef)), (400013, .hold (.s v1.2.1) (T4.getD 13 undef)), (400024, .hold (.bo true) (T4.getD 24 undef))]) .ret (fun b10 => [(4, .bo false)]) (fun b10 => [(499999, .sus g0.w.heap.size ds4), (400003, .hold (.s v1.2.1) (T4.getD 3 undef)), (400012, .hold (.s v1.1) (T4.getD 12 undef)), (400013, .hold (.s v1.2.1) (T4.getD 13 undef)), (400024, .hold (.bo true) (T4.getD 24 undef))]) rfl rfl (fun s8 x12 hr => ?_) (fun b9 hr => ?_) (fun b10 hr => ?_)
      ·
       unfold envelope_Split_l1 at hr
       refine rn tk 6 rfl ?_
       refine ac 9 hr rfl (fun c13 hr => ?_) (fun c13 hr => ?_)
       ·
        refine rn tk 15 rfl ?_
        obtain ⟨v14, h15, hr⟩ := bind_some hr
        refine ws tk h15 rfl rfl rfl rfl ?_
        refine il (fn := Tryz.f57) (args := [.u8 v14]) 600000 699999 [(0, .s v1.1), (1, .fn (.func 57) [] []), (7, .i ((v1.1.length : Int))), (8, .i s8)] rfl ⟨Tryz.func57, rfl, by kernel_rfl⟩ rfl rfl rfl fun T6 ds6 => ?_
        refine rn tk 5 rfl ?_
        refine jb hr (fun j16 => [(2, .bo j16)]) (fun j16 => [(699999, .sus g0.w.heap.size ds6), (600000, .hold (.s v1.1) (T6.getD 0 undef)), (600001, .hold (.fn (.func 57) [] []) (T6.getD 1 undef)), (600007, .hold (.i ((v1.1.length : Int))) (T6.getD 7 undef)), (600008, .hold (.i s8) (T6.getD 8 undef)), (499999, .sus g0.w.heap.size ds4), (400003, .hold (.s v1.2.1) (T4.getD 3 undef)), (400012, .hold (.s v1.1) (T4.getD 12 undef)), (400013, .hold (.s v1.2.1) (T4.getD 13 undef)), (400024, .hold (.bo true) (T4.getD 24 undef))]) (fun j16 hr => ?_) (fun j16 hr => ?_)
        ·
         refine rn tk 2 rfl ?_
         obtain ⟨v17, h18, hr⟩ := bind_some hr
         refine cl (basic_Letter_run _ _ h18) rfl rfl ?_
         refine rn tk 1 rfl ?_
         refine bs 5 hr rfl (fun c19 hr => ?_) (fun c19 hr => ?_)
         ·
          refine rn tk 6 rfl ?_
          cases hr
          exact jn _ rfl rfl rfl
         ·
          refine rn tk 1 rfl ?_
          obtain ⟨v20, h21, hr⟩ := bind_some hr
          refine ug rfl rfl rfl ?_
          refine cl (strings_IndexByte_run _ _ _ h21) rfl rfl ?_
          refine rn tk 4 rfl ?_
          cases hr
          exact jn _ rfl rfl rfl
        ·
         refine rn tk 1 rfl ?_
         refine ie tk [.bo j16] [(0, .s v1.1), (1, .fn (.func 57) [] []), (7, .i ((v1.1.length : Int))), (8, .i s8)] [(499999, .sus g0.w.heap.size ds4), (400003, .hold (.s v1.2.1) (T4.getD 3 undef)), (400012, .hold (.s v1.1) (T4.getD 12 undef)), (400013, .hold (.s v1.2.1) (T4.getD 13 undef)), (400024, .hold (.bo true) (T4.getD 24 undef))] (.inr rfl) rfl rfl rfl rfl (hO ?_)
         refine rn tk 3 rfl ?_
         refine ac 16 hr rfl (fun c22 hr => ?_) (fun c22 hr => ?_)
         ·
          refine rn tk 8 rfl ?_
          cases hr
          exact ato rfl rfl rfl rfl
         ·
          refine rn tk 7 rfl ?_
          cases hr
          exact atc rfl rfl
       ·
        refine rn tk 2 rfl ?_
        cases hr
        exact ato rfl rfl rfl rfl
      ·
       refine rn tk 8 rfl ?_
       refine ie tk [.bo true] [(3, .s v1.2.1), (12, .s v1.1), (13, .s v1.2.1), (24, .bo true)] [] (.inr rfl) rfl rfl rfl rfl ?_
       cases hr
       exact jump4 _ _ rfl rfl
      ·
       refine rn tk 2 rfl ?_
       refine ie tk [.bo false] [(3, .s v1.2.1), (12, .s v1.1), (13, .s v1.2.1), (24, .bo true)] [] (.inr rfl) rfl rfl rfl rfl ?_
       cases hr
       exact jump4 _ _ rfl rfl
     ·
      refine rn tk 2 rfl ?_
      refine bs 29 hr rfl (fun c23 hr => ?_) (fun c23 hr => ?_)
      ·
       refine rn tk 1 rfl ?_
       obtain ⟨v24, h25, hr⟩ := bind_some hr
       refine ug rfl rfl rfl ?_
       refine cl (envelope_Domain_run _ _ h25) rfl rfl ?_
       refine rn tk 5 rfl ?_
       cases hr
       exact jn _ rfl rfl rfl
      ·
       refine rn tk 7 rfl ?_
       cases hr
       exact jn _ rfl rfl rfl
    ·
     refine rn tk 12 rfl ?_
     cases hr
     exact jn _ rfl rfl rfl
   ·
    refine rn tk 17 rfl ?_
    cases hr
    exact jn _ rfl rfl rfl
  ·
   refine rn tk 21 rfl ?_
   cases hr
   exact jn _ rfl rfl rfl
 ·
  refine rn tk 1 rfl ?_
  cases hr
  exact kr tk (.inr rfl) rfl rfl
theorem envelope_Address_run (a0 : Str) (r : Bool) (hr : envelope_Address a0 = some r) : Run Tryz.prog 27 [.s a0] (.bo r) := by
 unfold envelope_Address at hr
 refine rf (fn := Tryz.f27) ⟨Tryz.func27, rfl, by kernel_rfl⟩ rfl (fun _ => rfl) fun g0 hg => ?_
 refine rn tk 8 rfl ?_
 obtain ⟨v1, h2, hr⟩ := bind_some hr
 refine cl (envelope_Split_run _ _ h2) rfl rfl ?_
 refine rn tk 16 rfl ?_
 cases hr
 exact kr tk (.inr rfl) rfl rfl
theorem envelope_Notify_run (a0 : Int) (r : Bool) (hr : envelope_Notify a0 = some r) : Run Tryz.prog 28 [.i a0] (.bo r) := by
 unfold envelope_Notify at hr
 refine rf (fn := Tryz.f28) ⟨Tryz.func28, rfl, by kernel_rfl⟩ rfl (fun _ => rfl) fun g0 hg => ?_
 refine rn tk 5 rfl ?_
 refine jb hr (fun j1 => [(2, .bo j1)]) (fun j1 => []) (fun j1 hr => ?_) (fun j1 hr => ?_)
 ·
  refine rn tk 4 rfl ?_
  refine bs 5 hr rfl (fun c2 hr => ?_) (fun c2 hr => ?_)
  ·
   refine rn tk 5 rfl ?_
   cases hr
   exact jn _ rfl rfl rfl
  ·
   refine rn tk 5 rfl ?_
   cases hr
   exact jn _ rfl rfl rfl
 ·
  refine rn tk 1 rfl ?_
  cases hr
  exact kr tk (.inr rfl) rfl rfl
theorem command_Validate_run (a0 : TCommand) (r : TFault) (hr : command_Validate a0 = some r) : Run Tryz.prog 9 [.agg [.i a0.Verb, .s a0.Name, .s a0.Address, .i a0.Size, .i a0.Notify, .bo a0.Last]] (.agg [.i r.Code, .i r.Index]) := by
 unfold command_Validate at hr
 refine rf (fn := Tryz.f9) ⟨Tryz.func9, rfl, by kernel_rfl⟩ rfl (fun _ => rfl) fun g0 hg => ?_
 refine rn tk 6 rfl ?_
 refine jb hr (fun j1 => [(1, .ptr 1 0), (2, .ptr 2 0), (3, .bo j1)]) (fun j1 => [(2, .cells [.i 0, .i 0]), (1, .cells [.i a0.Verb, .s a0.Name, .s a0.Address, .i a0.Size, .i a0.Notify, .bo a0.Last])]) (fun j1 hr => ?_) (fun j1 hr => ?_)
 ·
  refine rn tk 5 rfl ?_
  refine bs 7 hr rfl (fun c2 hr => ?_) (fun c2 hr => ?_)
  ·
   refine rn tk 11 rfl ?_
   cases hr
   exact jn _ rfl rfl rfl
  ·
   refine rn tk 4 rfl ?_
   refine bs 11 hr rfl (fun c3 hr => ?_) (fun c3 hr => ?_)
   ·
    refine rn tk 7 rfl ?_
    cases hr
    exact jn _ rfl rfl rfl
   ·
    refine rn tk 7 rfl ?_
    cases hr
    exact jn _ rfl rfl rfl
 ·
  refine rn tk 2 rfl ?_
  refine jb hr (fun j4 => [(1, .ptr 1 0), (2, .ptr 2 0), (3, .bo j1), (17, .bo j4)]) (fun j4 => [(2, .cells [.i 0, .i 0]), (1, .cells [.i a0.Verb, .s a0.Name, .s a0.Address, .i a0.Size, .i a0.Notify, .bo a0.Last])]) (fun j4 hr => ?_) (fun j4 hr => ?_)
  ·
   refine rn tk 5 rfl ?_
   refine bs 21 hr rfl (fun c5 hr => ?_) (fun c5 hr => ?_)
   ·
    refine rn tk 6 rfl ?_
    cases hr
    exact jn _ rfl rfl rfl
   ·
    refine rn tk 6 rfl ?_
    cases hr
    exact jn _ rfl rfl rfl
  ·
   refine ac 17 hr rfl (fun c6 hr => ?_) (fun c6 hr => ?_)
   ·
    refine rn tk 2 rfl ?_
    obtain ⟨v7, h8, hr⟩ := bind_some hr
    refine cl (basic_Fault_run _ _ _ h8) rfl rfl ?_
    refine rn tk 6 rfl ?_
    cases hr
    exact kr tk (.inr rfl) rfl rfl
   ·
    refine rn tk 1 rfl ?_
    obtain ⟨v9, h10, hr⟩ := bind_some hr
    refine dr 3 [(30, .agg [.i v9.Verb, .s v9.Name, .s v9.Address, .i v9.Size, .i v9.Notify, .bo v9.Last]), (29, .agg [.i a0.Verb, .s a0.Name, .s a0.Address, .i a0.Size, .i a0.Notify, .bo a0.Last]), (28, .agg [.i a0.Verb, .s a0.Name, .s a0.Address, .i a0.Size, .i a0.Notify, .bo a0.Last])] mixed (by kernel_rfl) rfl rfl (pq tk rfl (.plain rfl) (pq tk rfl (.plain rfl) (.run (.plain rfl) (opG_call (command_used_run a0 v9 h10) rfl) .nil))) rfl ?_
    refine wq (ev_structne rfl rfl ty_api_Command cmp_api_Command (.int rfl (by decide) ty_int (.str rfl (by decide) ty_string (.str rfl (by decide) ty_string (.int rfl (by decide) ty_int (.int rfl (by decide) ty_int (.bool rfl (by decide) ty_bool .nil))))))) rfl rfl rfl ?_
    refine rn tk 3 rfl ?_
    refine ac 27 hr rfl (fun c11 hr => ?_) (fun c11 hr => ?_)
    ·
     refine rn tk 2 rfl ?_
     obtain ⟨v12, h13, hr⟩ := bind_some hr
     refine cl (basic_Fault_run _ _ _ h13) rfl rfl ?_
     refine rn tk 6 rfl ?_
     cases hr
     exact kr tk (.inr rfl) rfl rfl
    ·
     refine jb hr (fun j14 => [(1, .ptr 1 0), (2, .ptr 2 0), (3, .bo j1), (33, .bo j14)]) (fun j14 => [(2, .cells [.i 0, .i 0]), (1, .cells [.i a0.Verb, .s a0.Name, .s a0.Address, .i a0.Size, .i a0.Notify, .bo a0.Last])]) (fun j14 hr => ?_) (fun j14 hr => ?_)
     ·
      refine rn tk 5 rfl ?_
      refine bs 37 hr rfl (fun c15 hr => ?_) (fun c15 hr => ?_)
      ·
       refine rn tk 2 rfl ?_
       obtain ⟨v16, h17, hr⟩ := bind_some hr
       refine ug rfl rfl rfl ?_
       refine cl (basic_Name_run _ _ h17) rfl rfl ?_
       refine rn tk 4 rfl ?_
       cases hr
       exact jn _ rfl rfl rfl
      ·
       refine rn tk 7 rfl ?_
       cases hr
       exact jn _ rfl rfl rfl
     ·
      refine ac 33 hr rfl (fun c18 hr => ?_) (fun c18 hr => ?_)
      ·
       refine rn tk 2 rfl ?_
       obtain ⟨v19, h20, hr⟩ := bind_some hr
       refine cl (basic_Fault_run _ _ _ h20) rfl rfl ?_
       refine rn tk 6 rfl ?_
       cases hr
       exact kr tk (.inr rfl) rfl rfl
      ·
       refine jb hr (fun j21 => [(1, .ptr 1 0), (2, .ptr 2 0), (44, .bo j21)]) (fun j21 => [(2, .cells [.i 0, .i 0]), (1, .cells [.i a0.Verb, .s a0.Name, .s a0.Address, .i a0.Size, .i a0.Notify, .bo a0.Last])]) (fun j21 hr => ?_) (fun j21 hr => ?_)
       ·
        refine rn tk 3 rfl ?_
        refine bs 46 hr rfl (fun c22 hr => ?_) (fun c22 hr => ?_)
        ·
         refine rn tk 2 rfl ?_
         obtain ⟨v23, h24, hr⟩ := bind_some hr
         refine ug rfl rfl rfl ?_
         refine cl (envelope_Address_run _ _ h24) rfl rfl ?_
         refine rn tk 4 rfl ?_
         cases hr
         exact jn _ rfl rfl rfl
        ·
         refine rn tk 7 rfl ?_
         cases hr
         exact jn _ rfl rfl rfl
       ·
        refine ac 44 hr rfl (fun c25 hr => ?_) (fun c25 hr => ?_)
        ·
         refine rn tk 2 rfl ?_
         obtain ⟨v26, h27, hr⟩ := bind_some hr
         refine cl (basic_Fault_run _ _ _ h27) rfl rfl ?_
         refine rn tk 6 rfl ?_
         cases hr
         exact kr tk (.inr rfl) rfl rfl
        ·
         refine jb hr (fun j28 => [(1, .ptr 1 0), (2, .ptr 2 0), (53, .bo j28)]) (fun j28 => [(2, .cells [.i 0, .i 0]), (1, .cells [.i a0.Verb, .s a0.Name, .s a0.Address, .i a0.Size, .i a0.Notify, .bo a0.Last])]) (fun j28 hr => ?_) (fun j28 hr => ?_)
         ·
          refine rn tk 5 rfl ?_
          refine bs 57 hr rfl (fun c29 hr => ?_) (fun c29 hr => ?_)
          ·
           refine rn tk 6 rfl ?_
           cases hr
           exact jn _ rfl rfl rfl
          ·
           refine rn tk 6 rfl ?_
           cases hr
           exact jn _ rfl rfl rfl
         ·
          refine ac 53 hr rfl (fun c30 hr => ?_) (fun c30 hr => ?_)
          ·
           refine rn tk 2 rfl ?_
           obtain ⟨v31, h32, hr⟩ := bind_some hr
           refine cl (basic_Fault_run _ _ _ h32) rfl rfl ?_
           refine rn tk 6 rfl ?_
           cases hr
           exact kr tk (.inr rfl) rfl rfl
          ·
           refine rn tk 4 rfl ?_
           obtain ⟨v33, h34, hr⟩ := bind_some hr
           refine cl (envelope_Notify_run _ _ h34) rfl rfl ?_
           refine rn tk 4 rfl ?_
           refine ac 63 hr rfl (fun c35 hr => ?_) (fun c35 hr => ?_)
           ·
            refine rn tk 2 rfl ?_
            obtain ⟨v36, h37, hr⟩ := bind_some hr
            refine cl (basic_Fault_run _ _ _ h37) rfl rfl ?_
            refine rn tk 6 rfl ?_
            cases hr
            exact kr tk (.inr rfl) rfl rfl
           ·
            refine rn tk 5 rfl ?_
            obtain ⟨v38, h39, hr⟩ := bind_some hr
            refine cl (basic_None_run _ h39) rfl rfl ?_
            refine rn tk 4 rfl ?_
            cases hr
            exact kr tk (.inr rfl) rfl rfl
end Go.Proofs.YtgbahimpdoahbaaGreatDoor

/- Library functions compute what their Lean functions do: strings.CutPrefix. -/
namespace Go.Proofs.YtgbahimpdoahbaaGreatDoor
open Go.RowKit
set_option maxRecDepth 100000
theorem str_argTp {g : G} {s : Str} {v : Value} (h : Rel g (.s s) v) : v = .string (strB s) := rel_b h
theorem strings_CutPrefix_run (s t : Str) (r : Str × Bool) (hr : strings_CutPrefix s t = some r) : Run Tryz.prog 60 [.s s, .s t] (.tup [.s r.1, .bo r.2]) := by
  unfold strings_CutPrefix at hr
  cases hr
  refine ⟨⟨_, _, ⟨Tryz.func60, rfl, by kernel_rfl⟩⟩, fun g vs hw hg ha => ?_⟩
  obtain ⟨hsz, hrel⟩ := ha
  obtain ⟨l⟩ := vs
  match l, hsz with
  | [x, y], _ =>
    obtain rfl := str_argTp (hrel 0 _ rfl)
    obtain rfl := str_argTp (hrel 1 _ rfl)
    refine callsIn_wide.2 ((Tryz.strings_CutPrefix (strB s) (strB t) g.w).mono ?_)
    rintro e w' ⟨rfl, rfl⟩
    refine ⟨g, _, rfl, rfl, Old.refl _ g, hw, rfl, .tup rfl fun i c hi => ?_⟩
    match i, hi with
    | 0, rfl => exact .pv (.b rfl)
    | 1, rfl => exact .pv (.b rfl)
end Go.Proofs.YtgbahimpdoahbaaGreatDoor

/- Library functions compute what their Lean functions do: strings.CutSuffix. -/
namespace Go.Proofs.YtgbahimpdoahbaaGreatDoor
open Go.RowKit
set_option maxRecDepth 100000
theorem str_argTx {g : G} {s : Str} {v : Value} (h : Rel g (.s s) v) : v = .string (strB s) := rel_b h
theorem strings_CutSuffix_run (s t : Str) (r : Str × Bool) (hr : strings_CutSuffix s t = some r) : Run Tryz.prog 61 [.s s, .s t] (.tup [.s r.1, .bo r.2]) := by
  unfold strings_CutSuffix at hr
  split at hr
  case isFalse => cases hr
  rename_i hlen
  cases hr
  refine ⟨⟨_, _, ⟨Tryz.func61, rfl, by kernel_rfl⟩⟩, fun g vs hw hg ha => ?_⟩
  obtain ⟨hsz, hrel⟩ := ha
  obtain ⟨l⟩ := vs
  match l, hsz with
  | [x, y], _ =>
    obtain rfl := str_argTx (hrel 0 _ rfl)
    obtain rfl := str_argTx (hrel 1 _ rfl)
    refine callsIn_wide.2 ((Tryz.strings_CutSuffix (strB s) (strB t) g.w (by rw [strB_size]; exact hlen)).mono ?_)
    rintro e w' ⟨rfl, rfl⟩
    refine ⟨g, _, rfl, rfl, Old.refl _ g, hw, rfl, .tup rfl fun i c hi => ?_⟩
    match i, hi with
    | 0, rfl => exact .pv (.b rfl)
    | 1, rfl => exact .pv (.b rfl)
end Go.Proofs.YtgbahimpdoahbaaGreatDoor

namespace Go.Proofs.YtgbahimpdoahbaaGreatDoor
open Go.RowKit
set_option maxRecDepth 100000
set_option maxHeartbeats 40000000
set_option linter.unusedVariables false
theorem command_address_run (a0 : Str) (r : Str × Bool) (hr : command_address a0 = some r) : Run Tryz.prog 48 [.s a0] (.tup [.s r.1, .bo r.2]) := by
 unfold command_address at hr
 refine rf (fn := Tryz.f48) ⟨Tryz.func48, rfl, by kernel_rfl⟩ rfl (fun _ => rfl) fun g0 hg => ?_
 refine rn tk 9 rfl ?_
 obtain ⟨v1, h2, hr⟩ := bind_some hr
 refine cl (strings_CutPrefix_run _ _ _ h2) rfl rfl ?_
 refine rn tk 10 rfl ?_
 obtain ⟨v3, h4, hr⟩ := bind_some hr
 refine cl (strings_CutSuffix_run _ _ _ h4) rfl rfl ?_
 refine rn tk 7 rfl ?_
 refine jb hr (fun j5 => [(2, .s v3.1), (3, .bo j5)]) (fun j5 => []) (fun j5 hr => ?_) (fun j5 hr => ?_)
 ·
  refine rn tk 4 rfl ?_
  refine bs 19 hr rfl (fun c6 hr => ?_) (fun c6 hr => ?_)
  ·
   refine rn tk 5 rfl ?_
   cases hr
   exact jn _ rfl rfl rfl
  ·
   refine rn tk 5 rfl ?_
   cases hr
   exact jn _ rfl rfl rfl
 ·
  refine rn tk 1 rfl ?_
  cases hr
  exact kr tk (.inr rfl) rfl rfl
end Go.Proofs.YtgbahimpdoahbaaGreatDoor

/- Numerals of the library: the functions compute what their Lean functions do. -/
namespace Go.Proofs.YtgbahimpdoahbaaGreatDoor
open Go.RowKit
set_option maxRecDepth 100000
theorem str_argN {g : G} {s : Str} {v : Value} (h : Rel g (.s s) v) : v = .string (strB s) := rel_b h
theorem pow_tab {g : G} (hg : Gl g) : Lib.TabIs Tryz.prog g.w "internal/strconv.uint64pow10" .u64 Lib.pow10Tab := by
  obtain ⟨t, fz, h⟩ := hg.2.1 (0, (Lib.pow10Tab.map fun z => Value.int .u64 z).toArray) (by simp [globK])
  have hn : Tryz.prog.globalNamed "internal/strconv.uint64pow10" = some 0 := by kernel_rfl
  unfold Lib.TabIs World.var?
  rw [hn]
  simp only [Option.bind_some]
  simp only at h
  rw [h]
theorem old_more (g : G) (q : Nat) (os : Array Obj) : Old (fun _ => False) g ⟨Go.Sort.grow (g.w.drewN q) os, g.u, g.loc⟩ := by
  have hb : ∀ k, k < g.w.heap.size → (Go.Sort.grow (g.w.drewN q) os).heap[k]? = g.w.heap[k]? := by
    intro k hk
    show (g.w.heap ++ os)[k]? = _
    rw [Array.getElem?_append_left hk]
  refine ⟨rfl, rfl, rfl, ⟨?_, fun _ _ => Nat.le_refl _, fun k i hk hi => ?_, fun r hr => (hb r (blk_lt hr)).trans hr⟩, fun k hk _ => ⟨hb k hk, rfl⟩⟩
  · show g.w.heap.size ≤ (g.w.heap ++ os).size
    simp
  · simp only [World.cell?]; rw [hb k hk]
end Go.Proofs.YtgbahimpdoahbaaGreatDoor

/- Numerals of the library: Atoi computes what its Lean function does. -/
namespace Go.Proofs.YtgbahimpdoahbaaGreatDoor
open Go.RowKit
set_option maxRecDepth 100000
theorem old_bytes (g : G) (e : TypeId) (s : ByteArray) : Old (fun _ => False) g ⟨Lib.bytesWorld g.w e s, g.u, g.loc⟩ := by
  generalize hw : Lib.bytesWorld g.w e s = w'
  unfold Lib.bytesWorld at hw
  have hother : ∀ q, q < g.w.heap.size → w'.heap[q]? = g.w.heap[q]? := by
    intro q hq
    subst hw
    simp only [World.freeze, Nat.one_ne_zero, if_false, Array.getElem?_modify]
    rw [if_neg (by omega)]
    exact Below.heap_alloc g.w.drew _ _ hq
  have hws : w'.heap.size = g.w.heap.size + 1 := by subst hw; simp [World.freeze]
  refine ⟨by subst hw; first | (simp [World.freeze]; done) | (simp [World.freeze]; rfl), by subst hw; first | (simp [World.freeze]; done) | (simp [World.freeze]; rfl), by subst hw; first | (simp [World.freeze]; done) | (simp [World.freeze]; rfl), ⟨by show g.w.heap.size ≤ w'.heap.size; omega, fun _ _ => Nat.le_refl _, fun k i hk hi => ?_, fun r hr => (hother r (blk_lt hr)).trans hr⟩, fun k hk _ => ⟨hother k hk, rfl⟩⟩
  simp only [World.cell?]; rw [hother k hk]
theorem old_belowS {g : G} {w' : World} (h : Below g.w.heap.size g.w w') : Old (fun _ => False) g ⟨w', g.u, g.loc⟩ :=
  ⟨h.os, h.tape, h.output, ⟨h.size, fun _ _ => Nat.le_refl _, fun k i hk _ => by simp only [World.cell?]; rw [h.block k hk], fun r hr => (h.block r (blk_lt hr)).trans hr⟩, fun k hk _ => ⟨h.block k hk, rfl⟩⟩
theorem err_var {g : G} (hg : Gl g) : ∃ tp p, g.w.var? Tryz.prog "strconv.ErrSyntax" = some #[.iface tp p] := by
  obtain ⟨tp, x, t, fz, h⟩ := hg.2.2 4 (by simp [globI])
  have hn : Tryz.prog.globalNamed "strconv.ErrSyntax" = some 4 := by kernel_rfl
  refine ⟨tp, x, ?_⟩
  unfold World.var?
  rw [hn]
  simp only [Option.bind_some]
  rw [h]
theorem strconv_Atoi_run (s : Str) (r : Int × Bool) (hr : strconv_Atoi s = some r) : Run Tryz.prog 77 [.s s] (.tup [.i r.1, .ifc r.2]) := by
  unfold strconv_Atoi at hr
  split at hr
  case isFalse => cases hr
  rename_i hlen
  refine ⟨⟨_, _, ⟨Tryz.func77, rfl, by kernel_rfl⟩⟩, fun g vs hw hg ha => ?_⟩
  obtain ⟨hsz, hrel⟩ := ha
  obtain ⟨l⟩ := vs
  match l, hsz with
  | [x], _ =>
    obtain rfl := str_argN (hrel 0 _ rfl)
    cases hn : Lib.atoi s with
    | none =>
      rw [hn] at hr
      cases hr
      obtain ⟨tp, p, hvar⟩ := err_var hg
      refine callsIn_wide.2 ((Tryz.strconv_Atoi_err_var (strB s) (by rw [strB_size]; exact hlen) (by simpa [strB] using hn) tp p g.w hvar).mono ?_)
      rintro e w' ⟨N, rfl, _, _, hb⟩
      exact ⟨⟨w', g.u, g.loc⟩, _, rfl, rfl, old_belowS hb, fun k hk => hw k (Nat.le_trans hb.size hk), rfl, .tup rfl fun i c hi => by
        match i, hi with
        | 0, rfl => exact .pv (.b rfl)
        | 1, rfl => exact .ifc rfl⟩
    | some n =>
      rw [hn] at hr
      cases hr
      refine callsIn_wide.2 ((Tryz.strconv_Atoi (strB s) n (by rw [strB_size]; exact hlen) (by simpa [strB] using hn) g.w).mono ?_)
      rintro e w' ⟨rfl, t, rfl⟩
      exact ⟨⟨_, g.u, g.loc⟩, _, rfl, rfl, old_bytes g _ _, fun k hk => hw k (Nat.le_trans (old_bytes g _ _).ext.size hk), rfl, .tup rfl fun i c hi => by
        match i, hi with
        | 0, rfl => exact .pv (.b rfl)
        | 1, rfl => exact .ifc rfl⟩
end Go.Proofs.YtgbahimpdoahbaaGreatDoor

/- Numerals of the library: Itoa computes what its Lean function does. -/
namespace Go.Proofs.YtgbahimpdoahbaaGreatDoor
open Go.RowKit
set_option maxRecDepth 100000
theorem strconv_Itoa_run (n : Int) (r : Str) (hr : strconv_Itoa n = some r) : Run Tryz.prog 18 [.i n] (.s r) := by
  unfold strconv_Itoa at hr
  split at hr
  case isFalse => cases hr
  rename_i hlen
  cases hr
  refine ⟨⟨_, _, ⟨Tryz.func18, rfl, by kernel_rfl⟩⟩, fun g vs hw hg ha => ?_⟩
  obtain ⟨hsz, hrel⟩ := ha
  obtain ⟨l⟩ := vs
  match l, hsz with
  | [x], _ =>
    have e2 : x = .int .i64 n := rel_b (hrel 0 _ rfl)
    subst e2
    refine callsIn_wide.2 ((Tryz.strconv_Itoa n hlen.1 hlen.2 g.w (pow_tab hg)).mono ?_)
    rintro e w' ⟨rfl, q, os, rfl⟩
    exact ⟨⟨Go.Sort.grow (g.w.drewN q) os, g.u, g.loc⟩, _, rfl, rfl, old_more g q os, fun k hk => hw k (Nat.le_trans (old_more g q os).ext.size hk), rfl, .pv (.b rfl)⟩
end Go.Proofs.YtgbahimpdoahbaaGreatDoor

namespace Go.Proofs.YtgbahimpdoahbaaGreatDoor
open Go.RowKit
set_option maxRecDepth 100000
set_option maxHeartbeats 40000000
set_option linter.unusedVariables false
theorem basic_Number_run (a0 : Str) (a1 : Int) (r : Int × Bool) (hr : basic_Number a0 a1 = some r) : Run Tryz.prog 62 [.s a0, .i a1] (.tup [.i r.1, .bo r.2]) := by
 unfold basic_Number at hr
 refine rf (fn := Tryz.f62) ⟨Tryz.func62, rfl, by kernel_rfl⟩ rfl (fun _ => rfl) fun g0 hg => ?_
 refine rn tk 9 rfl ?_
 obtain ⟨v1, h2, hr⟩ := bind_some hr
 refine cl (strconv_Atoi_run _ _ h2) rfl rfl ?_
 refine rn tk 8 rfl ?_
 refine jb hr (fun j3 => [(6, .i v1.1), (29, .bo j3)]) (fun j3 => []) (fun j3 hr => ?_) (fun j3 hr => ?_)
 ·
  refine rn tk 2 rfl ?_
  refine wq (ev_ifneq rfl rfl ty_error) rfl rfl rfl ?_
  refine rn tk 1 rfl ?_
  refine bs 15 hr rfl (fun c4 hr => ?_) (fun c4 hr => ?_)
  ·
   refine rn tk 15 rfl ?_
   cases hr
   exact jn _ rfl rfl rfl
  ·
   refine rn tk 1 rfl ?_
   obtain ⟨v5, h6, hr⟩ := bind_some hr
   refine ug rfl rfl rfl ?_
   refine cl (strconv_Itoa_run _ _ h6) rfl rfl ?_
   refine rn tk 4 rfl ?_
   refine bs 21 hr rfl (fun c7 hr => ?_) (fun c7 hr => ?_)
   ·
    refine rn tk 9 rfl ?_
    cases hr
    exact jn _ rfl rfl rfl
   ·
    refine rn tk 4 rfl ?_
    refine bs 25 hr rfl (fun c8 hr => ?_) (fun c8 hr => ?_)
    ·
     refine rn tk 5 rfl ?_
     cases hr
     exact jn _ rfl rfl rfl
    ·
     refine rn tk 5 rfl ?_
     cases hr
     exact jn _ rfl rfl rfl
 ·
  refine ac 29 hr rfl (fun c9 hr => ?_) (fun c9 hr => ?_)
  ·
   refine rn tk 8 rfl ?_
   cases hr
   exact kr tk (.inr rfl) rfl rfl
  ·
   refine rn tk 10 rfl ?_
   cases hr
   exact kr tk (.inr rfl) rfl rfl
theorem command_number_run (a0 : Str) (r : Int × Bool) (hr : command_number a0 = some r) : Run Tryz.prog 50 [.s a0] (.tup [.i r.1, .bo r.2]) := by
 unfold command_number at hr
 refine rf (fn := Tryz.f50) ⟨Tryz.func50, rfl, by kernel_rfl⟩ rfl (fun _ => rfl) fun g0 hg => ?_
 refine rn tk 14 rfl ?_
 refine ac 6 hr rfl (fun c1 hr => ?_) (fun c1 hr => ?_)
 ·
  refine rn tk 8 rfl ?_
  cases hr
  exact kr tk (.inr rfl) rfl rfl
 ·
  refine rn tk 5 rfl ?_
  obtain ⟨v2, h3, hr⟩ := bind_some hr
  refine cl (basic_Number_run _ _ _ h3) rfl rfl ?_
  refine rn tk 7 rfl ?_
  cases hr
  exact kr tk (.inr rfl) rfl rfl
theorem command_option_run (a0 : List Str) (a1 : Str) (r : Str × Bool) (hr : command_option a0 a1 = some r) : Run Tryz.prog 49 [.l cS a0, .s a1] (.tup [.s r.1, .bo r.2]) := by
 unfold command_option at hr
 refine rf (fn := Tryz.f49) ⟨Tryz.func49, rfl, by kernel_rfl⟩ rfl (fun _ => rfl) fun g0 hg => ?_
 refine rn tk 10 rfl ?_
 refine wn tk rfl rfl rfl ?_
 refine rn tk 3 rfl ?_
 refine ac 8 hr rfl (fun c1 hr => ?_) (fun c1 hr => ?_)
 ·
  refine rn tk 8 rfl ?_
  cases hr
  exact kr tk (.inr rfl) rfl rfl
 ·
  refine rn tk 5 rfl ?_
  obtain ⟨v2, h3, hr⟩ := bind_some hr
  refine wi tk h3 rfl rfl rfl rfl rfl ?_
  refine rn tk 1 rfl ?_
  obtain ⟨v4, h5, hr⟩ := bind_some hr
  refine cl (basic_Lower_run _ _ h5) rfl rfl ?_
  refine rn tk 1 rfl ?_
  obtain ⟨v6, h7, hr⟩ := bind_some hr
  refine wc h7 rfl rfl rfl ?_
  obtain ⟨v8, h9, hr⟩ := bind_some hr
  refine cl (strings_CutPrefix_run _ _ _ h9) rfl rfl ?_
  refine rn tk 7 rfl ?_
  cases hr
  exact kr tk (.inr rfl) rfl rfl
theorem command_read_1_run (a0 : Int) (a1 : Int) (c0_0 : List Str) (r : Bool) (hr : command_read_1 a0 a1 c0_0 = some r) : Run Tryz.prog 47 [.i a0, .i a1, .ep [pL cS c0_0]] (.bo r) := by
 unfold command_read_1 at hr
 refine rf (fn := Tryz.f47) ⟨Tryz.func47, rfl, by kernel_rfl⟩ rfl (fun _ => rfl) fun g0 hg => ?_
 refine rn tk 5 rfl ?_
 refine jb hr (fun j1 => [(5, .bo j1)]) (fun j1 => []) (fun j1 hr => ?_) (fun j1 hr => ?_)
 ·
  refine rn tk 2 rfl ?_
  refine wn tk rfl rfl rfl ?_
  refine rn tk 3 rfl ?_
  refine bs 10 hr rfl (fun c2 hr => ?_) (fun c2 hr => ?_)
  ·
   refine rn tk 1 rfl ?_
   refine ug rfl rfl rfl ?_
   refine wn tk rfl rfl rfl ?_
   refine rn tk 5 rfl ?_
   cases hr
   exact jn _ rfl rfl rfl
  ·
   refine rn tk 7 rfl ?_
   cases hr
   exact jn _ rfl rfl rfl
 ·
  refine rn tk 1 rfl ?_
  cases hr
  exact kr tk (.inr rfl) rfl rfl
end Go.Proofs.YtgbahimpdoahbaaGreatDoor

/- Library functions compute what their Lean functions do: texts joined and repeated. -/
namespace Go.Proofs.YtgbahimpdoahbaaGreatDoor
open Go.RowKit
set_option maxRecDepth 100000
theorem old_below {g : G} {w' : World} (h : Below g.w.heap.size g.w w') : Old (fun _ => False) g ⟨w', g.u, g.loc⟩ :=
  ⟨h.os, h.tape, h.output, ⟨h.size, fun _ _ => Nat.le_refl _, fun k i hk _ => by simp only [World.cell?]; rw [h.block k hk], fun r hr => (h.block r (blk_lt hr)).trans hr⟩, fun k hk _ => ⟨h.block k hk, rfl⟩⟩
theorem str_argJ {g : G} {s : Str} {v : Value} (h : Rel g (.s s) v) : v = .string (strB s) := rel_b h
/-- texts, where they lie -/
theorem str_cells {g : G} {l : List Str} {v : Value} (h : Rel g (.l cS l) v) : ∃ ad cap, v = .slice ad l.length cap ∧ l.length ≤ cap ∧ (l ≠ [] → ∃ b off, ad = some ⟨b, off, none⟩ ∧ b < g.w.heap.size ∧ ∀ (i : Nat) s, l[i]? = some s → g.w.cell? ⟨b, off + i, none⟩ = some (.string (strB s))) := by
  cases h with
  | pv h =>
    generalize hE : l.map cS = elems at h
    have hEl : elems.length = l.length := by rw [← hE]; simp
    unfold pL at h
    rw [hE] at h
    cases h with
    | @sl _ _ a cap size b off val hn h0 hc hz ha hu hcell h =>
      refine ⟨a, cap, by rw [hEl], by omega, fun hne => ?_⟩
      have hne' : elems ≠ [] := by rw [← hE]; simpa using hne
      refine ⟨b, off, ha hne', (hu hne').2, fun i s hi => ?_⟩
      have hget : elems[i]? = some (cS s) := by rw [← hE]; simp [hi]
      have hs1 : size = 1 := by
        have := hz _ (List.mem_of_getElem? hget)
        simpa [cS] using this.symm
      subst hs1
      have hlt : i < elems.length := (List.getElem?_eq_some_iff.1 hget).1
      rw [hcell i (by omega)]
      have := h i 0 _ (.b (.string (strB s))) hget rfl
      simp only [Nat.mul_one, Nat.add_zero] at this
      have e := rel_b (g := g) (.pv this)
      rw [e]
theorem strings_Join_run (l : List Str) (s : Str) (r : Str) (hr : strings_Join l s = some r) : Run Tryz.prog 42 [.l cS l, .s s] (.s r) := by
  unfold strings_Join at hr
  split at hr
  case isFalse => cases hr
  rename_i hlen
  cases hr
  refine ⟨⟨_, _, ⟨Tryz.func42, rfl, by kernel_rfl⟩⟩, fun g vs hw hg ha => ?_⟩
  obtain ⟨hsz, hrel⟩ := ha
  obtain ⟨vl⟩ := vs
  match vl, hsz with
  | [x, y], _ =>
    have h0 : Rel g (.l cS l) x := hrel 0 _ rfl
    obtain rfl := str_argJ (hrel 1 _ rfl)
    obtain ⟨ad, cap, rfl, hcap, hcell⟩ := str_cells h0
    refine callsIn_wide.2 ?_
    suffices hs : Calls Tryz.prog 42 #[.slice ad l.length cap, .string (strB s)] g.w fun e w' => e = .returned (.string (strB (Lib.join l s))) ∧ Below g.w.heap.size g.w w' by
      refine hs.mono ?_
      rintro e w' ⟨rfl, hb⟩
      exact ⟨⟨w', g.u, g.loc⟩, _, rfl, rfl, old_below hb, fun k hk => hw k (Nat.le_trans hb.size hk), rfl, .pv (.b rfl)⟩
    cases l with
    | nil => exact (Tryz.strings_Join_none ad cap (strB s) g.w).mono fun e w' ⟨he, hw⟩ => ⟨he, hw ▸ Below.refl _ _⟩
    | cons a l =>
      obtain ⟨b, off, rfl, hb, hc⟩ := hcell (by simp)
      have e1 : ((a :: l).map strB).map (·.data.toList) = a :: l := by
        rw [List.map_map]
        conv => rhs; rw [← List.map_id (a :: l)]
        exact List.map_congr_left fun x _ => rfl
      have := Tryz.strings_Join b off cap ((a :: l).map strB) (strB s) g.w (fun j x hx => by
        simp only [List.getElem?_map, Option.map_eq_some_iff] at hx
        obtain ⟨y, hy, rfl⟩ := hx
        exact hc j y hy) hb (by rw [List.length_map]; exact hlen.1) (by rw [List.length_map]; exact hcap) (by rw [e1]; exact hlen.2)
      rw [e1, List.length_map] at this
      exact this
end Go.Proofs.YtgbahimpdoahbaaGreatDoor

namespace Go.Proofs.YtgbahimpdoahbaaGreatDoor
open Go.RowKit
set_option maxRecDepth 100000
set_option maxHeartbeats 40000000
set_option linter.unusedVariables false
theorem command_conditions_run  (r : Tcommand_condition × Tcommand_condition × Tcommand_condition) (hr : command_conditions = some r) : Run Tryz.prog 41 [] (.agg [.i r.1.n, .s r.1.word, .i r.2.1.n, .s r.2.1.word, .i r.2.2.n, .s r.2.2.word]) := by
 unfold command_conditions at hr
 refine rf (fn := Tryz.f41) ⟨Tryz.func41, rfl, by kernel_rfl⟩ rfl (fun _ => rfl) fun g0 hg => ?_
 refine rn tk 10 rfl ?_
 refine wq (ev_buildA (cs := [.i 1, .s (([102, 97, 105, 108, 117, 114, 101] : Str)), .i 2, .s (([100, 101, 108, 97, 121] : Str)), .i 4, .s (([115, 117, 99, 99, 101, 115, 115] : Str))]) ty__3_command_condition ty_command_condition (.inr ⟨rfl, rfl⟩) (by kernel_rfl)) rfl rfl rfl ?_
 refine rn tk 4 rfl ?_
 cases hr
 exact kr tk (.inr rfl) rfl rfl
theorem command_notify_run (a0 : Int) (r : Str) (hr : command_notify a0 = some r) : Run Tryz.prog 19 [.i a0] (.s r) := by
 unfold command_notify at hr
 refine rf (fn := Tryz.f19) ⟨Tryz.func19, rfl, by kernel_rfl⟩ rfl (fun _ => rfl) fun g0 hg => ?_
 refine rn tk 8 rfl ?_
 refine awpl_adopt 1003 (d := 3) 9 1 rfl rfl rfl (hO ?_)
 refine rn tk 5 rfl ?_
 obtain ⟨v1, h2, hr⟩ := bind_some hr
 refine cl (command_conditions_run _ h2) rfl rfl ?_
 refine rn tk 4 rfl ?_
 refine al1 hr (fun s3 => [(0, .i a0), (3, .hs 1003 0), (6, .agg [.i v1.1.n, .s v1.1.word, .i v1.2.1.n, .s v1.2.1.word, .i v1.2.2.n, .s v1.2.2.word]), (7, .i s3.1)]) (fun s3 => [(1003, .row 9 false 1 (List.map cS s3.2))]) (.exit 0) (fun b4 => [(3, .hs 1003 0)]) (fun b4 => [(1003, .row 9 false 1 (List.map cS b4))]) rfl rfl (fun s3 x5 hr => ?_) (fun b4 hr => ?_)
 ·
  unfold command_notify_l1 at hr
  refine rn tk 6 rfl ?_
  refine ac 8 hr rfl (fun c6 hr => ?_) (fun c6 hr => ?_)
  ·
   refine rn tk 2 rfl ?_
   refine jb hr (fun j7 => [(0, .i a0), (3, .hs 1003 0), (6, .agg [.i v1.1.n, .s v1.1.word, .i v1.2.1.n, .s v1.2.1.word, .i v1.2.2.n, .s v1.2.2.word]), (7, .i s3.1)]) (fun j7 => [(1003, .row 9 false 1 (List.map cS j7))]) (fun j7 hr => ?_) (fun j7 hr => ?_)
   ·
    refine rn tk 3 rfl ?_
    obtain ⟨v8, h9, hr⟩ := bind_some hr
    refine wq (ev_aidxN (f := Tcommand_condition.pc) (L := ([v1.1, v1.2.1, v1.2.2] : List Tcommand_condition)) rfl rfl ty__3_command_condition ty_command_condition rfl rfl (fun _ => rfl) h9) rfl rfl rfl ?_
    refine rn tk 9 rfl ?_
    refine wq (ev_iand rfl rfl) rfl rfl rfl ?_
    refine rn tk 3 rfl ?_
    refine ac 14 hr rfl (fun c10 hr => ?_) (fun c10 hr => ?_)
    ·
     refine rn tk 4 rfl ?_
     refine wz cS ([v8.word] : List Str) tk rfl rfl (fun _ => rfl) rfl rfl rfl ?_
     obtain ⟨v11, h12, hr⟩ := bind_some hr
     refine wa tk h12 rfl rfl rfl rfl (fun _ => rfl) rfl rfl ?_
     refine rn tk 3 rfl ?_
     cases hr
     exact jn _ rfl rfl rfl
    ·
     refine rn tk 2 rfl ?_
     cases hr
     exact jn _ rfl rfl rfl
   ·
    refine rn tk 4 rfl ?_
    cases hr
    exact atc rfl rfl
  ·
   refine rn tk 2 rfl ?_
   cases hr
   exact ato rfl rfl rfl rfl
 ·
  refine rn tk 6 rfl ?_
  refine wnh tk rfl rfl rfl rfl ?_
  refine rn tk 3 rfl ?_
  refine ac 23 hr rfl (fun c13 hr => ?_) (fun c13 hr => ?_)
  ·
   refine rn tk 7 rfl ?_
   cases hr
   exact kr tk (.inr rfl) rfl rfl
  ·
   refine rn tk 5 rfl ?_
   refine awpl_pub (d := 24) (F := cS) (l := b4) rfl rfl (hO ?_)
   obtain ⟨v14, h15, hr⟩ := bind_some hr
   refine cl (strings_Join_run _ _ _ h15) rfl rfl ?_
   refine rn tk 4 rfl ?_
   cases hr
   exact kr tk (.inr rfl) rfl rfl
theorem command_told_run (a0 : Str) (a1 : Bool) (r : Int × Bool) (hr : command_told a0 a1 = some r) : Run Tryz.prog 51 [.s a0, .bo a1] (.tup [.i r.1, .bo r.2]) := by
 unfold command_told at hr
 refine rf (fn := Tryz.f51) ⟨Tryz.func51, rfl, by kernel_rfl⟩ rfl (fun _ => rfl) fun g0 hg => ?_
 refine rn tk 13 rfl ?_
 refine al2 hr (fun s1 => [(0, .s a0), (1, .bo a1), (7, .i s1)]) (fun s1 => []) (.exit 0) (fun b2 => []) (fun b2 => []) .ret (fun b3 => [(4, .i b3.1), (5, .bo b3.2)]) (fun b3 => []) rfl rfl (fun s1 x5 hr => ?_) (fun b2 hr => ?_) (fun b3 hr => ?_)
 ·
  unfold command_told_l1 at hr
  refine rn tk 6 rfl ?_
  refine ac 8 hr rfl (fun c6 hr => ?_) (fun c6 hr => ?_)
  ·
   refine rn tk 10 rfl ?_
   refine jb hr (fun j7 => [(0, .s a0), (1, .bo a1), (6, .i s1), (7, .i s1), (16, .bo j7)]) (fun j7 => []) (fun j7 hr => ?_) (fun j7 hr => ?_)
   ·
    refine rn tk 3 rfl ?_
    refine bs 11 hr rfl (fun c8 hr => ?_) (fun c8 hr => ?_)
    ·
     refine rn tk 1 rfl ?_
     obtain ⟨v9, h10, hr⟩ := bind_some hr
     refine ug rfl rfl rfl ?_
     refine cl (command_notify_run _ _ h10) rfl rfl ?_
     refine rn tk 4 rfl ?_
     cases hr
     exact jn _ rfl rfl rfl
    ·
     refine rn tk 6 rfl ?_
     cases hr
     exact jn _ rfl rfl rfl
   ·
    refine ac 16 hr rfl (fun c11 hr => ?_) (fun c11 hr => ?_)
    ·
     refine rn tk 10 rfl ?_
     cases hr
     exact ato rfl rfl rfl rfl
    ·
     refine rn tk 7 rfl ?_
     cases hr
     exact atc rfl rfl
  ·
   refine rn tk 2 rfl ?_
   cases hr
   exact ato rfl rfl rfl rfl
 ·
  refine rn tk 9 rfl ?_
  cases hr
  exact kr tk (.inr rfl) rfl rfl
 ·
  refine rn tk 2 rfl ?_
  cases hr
  exact kr tk (.inr rfl) rfl rfl
theorem command_read_run (a0 : Int) (a1 : List Str) (r : TCommand × Bool) (hr : command_read a0 a1 = some r) : Run Tryz.prog 32 [.i a0, .l cS a1] (.tup [.agg [.i r.1.Verb, .s r.1.Name, .s r.1.Address, .i r.1.Size, .i r.1.Notify, .bo r.1.Last], .bo r.2]) := by
 unfold command_read at hr
 refine rf (fn := Tryz.f32) ⟨Tryz.func32, rfl, by kernel_rfl⟩ rfl (fun _ => rfl) fun g0 hg => ?_
 refine rn tk 17 rfl ?_
 refine awpl_pubbox 3 (cs := [pL cS a1]) rfl rfl (hO ?_)
 refine rn tk 10 rfl ?_
 refine jk (fun j1 => [(4, .ptr 4 0), (6, .ptr 6 0), (8, .bo j1.1), (9, .bo j1.2.1)]) (fun j1 => [(6, .cells [.i a0, .s j1.2.2.1, .s j1.2.2.2.1, .i j1.2.2.2.2.1, .i j1.2.2.2.2.2.1, .bo j1.2.2.2.2.2.2]), (4, .cells [.i 0, .s (([] : Str)), .s (([] : Str)), .i 0, .i 0, .bo false])]) (fun j1 => command_read_k1 a0 j1 = some r) ?_ ?_
 ·
  refine rn tk 12 rfl ?_
  refine ac 19 hr rfl (fun c4 hr => ?_) (fun c4 hr => ?_)
  ·
   refine rn tk 4 rfl ?_
   refine il (fn := Tryz.f47) (args := [.i 1, .i 1, .ep [pL cS a1]]) 500000 599999 [(3, .ep [pL cS a1]), (4, .ptr 4 0), (6, .ptr 6 0), (8, .bo true), (9, .bo true)] rfl ⟨Tryz.func47, rfl, by kernel_rfl⟩ rfl rfl rfl fun T5 ds5 => ?_
   refine rn tk 5 rfl ?_
   refine jb hr (fun j5 => [(5, .bo j5)]) (fun j5 => [(599999, .sus g0.w.heap.size ds5), (500003, .hold (.ep [pL cS a1]) (T5.getD 3 undef)), (500004, .hold (.ptr 4 0) (T5.getD 4 undef)), (500006, .hold (.ptr 6 0) (T5.getD 6 undef)), (500008, .hold (.bo true) (T5.getD 8 undef)), (500009, .hold (.bo true) (T5.getD 9 undef)), (6, .cells [.i a0, .s (([] : Str)), .s (([] : Str)), .i 0, .i 0, .bo false]), (4, .cells [.i 0, .s (([] : Str)), .s (([] : Str)), .i 0, .i 0, .bo false])]) (fun j5 hr => ?_) (fun j5 hr => ?_)
   ·
    refine rn tk 2 rfl ?_
    refine wn tk rfl rfl rfl ?_
    refine rn tk 3 rfl ?_
    refine bs 10 hr rfl (fun c6 hr => ?_) (fun c6 hr => ?_)
    ·
     refine rn tk 1 rfl ?_
     refine ug rfl rfl rfl ?_
     refine wn tk rfl rfl rfl ?_
     refine rn tk 5 rfl ?_
     cases hr
     exact jn _ rfl rfl rfl
    ·
     refine rn tk 7 rfl ?_
     cases hr
     exact jn _ rfl rfl rfl
   ·
    refine rn tk 1 rfl ?_
    refine ie tk [.bo j5] [(3, .ep [pL cS a1]), (4, .ptr 4 0), (6, .ptr 6 0), (8, .bo true), (9, .bo true)] [(6, .cells [.i a0, .s (([] : Str)), .s (([] : Str)), .i 0, .i 0, .bo false]), (4, .cells [.i 0, .s (([] : Str)), .s (([] : Str)), .i 0, .i 0, .bo false])] (.inr rfl) rfl rfl rfl rfl (hO ?_)
    refine rn tk 3 rfl ?_
    refine ac 23 hr rfl (fun c7 hr => ?_) (fun c7 hr => ?_)
    ·
     refine rn tk 11 rfl ?_
     cases hr
     exact kr tk (.inr rfl) rfl rfl
    ·
     refine rn tk 4 rfl ?_
     obtain ⟨v8, h9, hr⟩ := bind_some hr
     refine wi tk h9 rfl rfl rfl rfl rfl ?_
     refine rn tk 5 rfl ?_
     exact jn ((true, true, v8, ([] : Str), 0, 0, false)) hr rfl rfl
  ·
   refine rn tk 6 rfl ?_
   refine ac 29 hr rfl (fun c10 hr => ?_) (fun c10 hr => ?_)
   ·
    refine rn tk 4 rfl ?_
    refine il (fn := Tryz.f47) (args := [.i 1, .i 2, .ep [pL cS a1]]) 600000 699999 [(3, .ep [pL cS a1]), (4, .ptr 4 0), (6, .ptr 6 0), (9, .bo true)] rfl ⟨Tryz.func47, rfl, by kernel_rfl⟩ rfl rfl rfl fun T6 ds6 => ?_
    refine rn tk 5 rfl ?_
    refine jb hr (fun j11 => [(5, .bo j11)]) (fun j11 => [(699999, .sus g0.w.heap.size ds6), (600003, .hold (.ep [pL cS a1]) (T6.getD 3 undef)), (600004, .hold (.ptr 4 0) (T6.getD 4 undef)), (600006, .hold (.ptr 6 0) (T6.getD 6 undef)), (600009, .hold (.bo true) (T6.getD 9 undef)), (6, .cells [.i a0, .s (([] : Str)), .s (([] : Str)), .i 0, .i 0, .bo false]), (4, .cells [.i 0, .s (([] : Str)), .s (([] : Str)), .i 0, .i 0, .bo false])]) (fun j11 hr => ?_) (fun j11 hr => ?_)
    ·
     refine rn tk 2 rfl ?_
     refine wn tk rfl rfl rfl ?_
     refine rn tk 3 rfl ?_
     refine bs 10 hr rfl (fun c12 hr => ?_) (fun c12 hr => ?_)
     ·
      refine rn tk 1 rfl ?_
      refine ug rfl rfl rfl ?_
      refine wn tk rfl rfl rfl ?_
      refine rn tk 5 rfl ?_
      cases hr
      exact jn _ rfl rfl rfl
     ·
      refine rn tk 7 rfl ?_
      cases hr
      exact jn _ rfl rfl rfl
    ·
     refine rn tk 1 rfl ?_
     refine ie tk [.bo j11] [(3, .ep [pL cS a1]), (4, .ptr 4 0), (6, .ptr 6 0), (9, .bo true)] [(6, .cells [.i a0, .s (([] : Str)), .s (([] : Str)), .i 0, .i 0, .bo false]), (4, .cells [.i 0, .s (([] : Str)), .s (([] : Str)), .i 0, .i 0, .bo false])] (.inr rfl) rfl rfl rfl rfl (hO ?_)
     refine rn tk 3 rfl ?_
     refine ac 33 hr rfl (fun c13 hr => ?_) (fun c13 hr => ?_)
     ·
      refine rn tk 11 rfl ?_
      cases hr
      exact kr tk (.inr rfl) rfl rfl
     ·
      refine rn tk 5 rfl ?_
      obtain ⟨v14, h15, hr⟩ := bind_some hr
      refine wi tk h15 rfl rfl rfl rfl rfl ?_
      refine rn tk 1 rfl ?_
      obtain ⟨v16, h17, hr⟩ := bind_some hr
      refine cl (command_address_run _ _ h17) rfl rfl ?_
      refine rn tk 11 rfl ?_
      refine wn tk rfl rfl rfl ?_
      refine rn tk 3 rfl ?_
      refine ac 45 hr rfl (fun c18 hr => ?_) (fun c18 hr => ?_)
      ·
       refine rn tk 13 rfl ?_
       obtain ⟨v19, h20, hr⟩ := bind_some hr
       refine wlL tk h20 rfl rfl rfl (fun _ => rfl) rfl ?_
       obtain ⟨v21, h22, hr⟩ := bind_some hr
       refine cl (command_option_run _ _ _ h22) rfl rfl ?_
       refine rn tk 10 rfl ?_
       obtain ⟨v23, h24, hr⟩ := bind_some hr
       refine cl (command_number_run _ _ h24) rfl rfl ?_
       refine rn tk 11 rfl ?_
       refine bs 59 hr rfl (fun c25 hr => ?_) (fun c25 hr => ?_)
       ·
        refine rn tk 5 rfl ?_
        exact jn ((v16.2, v21.2, ([] : Str), v16.1, v23.1, 0, false)) hr rfl rfl
       ·
        refine rn tk 5 rfl ?_
        exact jn ((v16.2, false, ([] : Str), v16.1, v23.1, 0, false)) hr rfl rfl
      ·
       refine rn tk 2 rfl ?_
       exact jn ((v16.2, true, ([] : Str), v16.1, 0, 0, false)) hr rfl rfl
   ·
    refine rn tk 6 rfl ?_
    refine ac 62 hr rfl (fun c26 hr => ?_) (fun c26 hr => ?_)
    ·
     refine rn tk 4 rfl ?_
     refine il (fn := Tryz.f47) (args := [.i 1, .i 2, .ep [pL cS a1]]) 700000 799999 [(3, .ep [pL cS a1]), (4, .ptr 4 0), (6, .ptr 6 0), (9, .bo true)] rfl ⟨Tryz.func47, rfl, by kernel_rfl⟩ rfl rfl rfl fun T7 ds7 => ?_
     refine rn tk 5 rfl ?_
     refine jb hr (fun j27 => [(5, .bo j27)]) (fun j27 => [(799999, .sus g0.w.heap.size ds7), (700003, .hold (.ep [pL cS a1]) (T7.getD 3 undef)), (700004, .hold (.ptr 4 0) (T7.getD 4 undef)), (700006, .hold (.ptr 6 0) (T7.getD 6 undef)), (700009, .hold (.bo true) (T7.getD 9 undef)), (6, .cells [.i a0, .s (([] : Str)), .s (([] : Str)), .i 0, .i 0, .bo false]), (4, .cells [.i 0, .s (([] : Str)), .s (([] : Str)), .i 0, .i 0, .bo false])]) (fun j27 hr => ?_) (fun j27 hr => ?_)
     ·
      refine rn tk 2 rfl ?_
      refine wn tk rfl rfl rfl ?_
      refine rn tk 3 rfl ?_
      refine bs 10 hr rfl (fun c28 hr => ?_) (fun c28 hr => ?_)
      ·
       refine rn tk 1 rfl ?_
       refine ug rfl rfl rfl ?_
       refine wn tk rfl rfl rfl ?_
       refine rn tk 5 rfl ?_
       cases hr
       exact jn _ rfl rfl rfl
      ·
       refine rn tk 7 rfl ?_
       cases hr
       exact jn _ rfl rfl rfl
     ·
      refine rn tk 1 rfl ?_
      refine ie tk [.bo j27] [(3, .ep [pL cS a1]), (4, .ptr 4 0), (6, .ptr 6 0), (9, .bo true)] [(6, .cells [.i a0, .s (([] : Str)), .s (([] : Str)), .i 0, .i 0, .bo false]), (4, .cells [.i 0, .s (([] : Str)), .s (([] : Str)), .i 0, .i 0, .bo false])] (.inr rfl) rfl rfl rfl rfl (hO ?_)
      refine rn tk 3 rfl ?_
      refine ac 66 hr rfl (fun c29 hr => ?_) (fun c29 hr => ?_)
      ·
       refine rn tk 11 rfl ?_
       cases hr
       exact kr tk (.inr rfl) rfl rfl
      ·
       refine rn tk 5 rfl ?_
       obtain ⟨v30, h31, hr⟩ := bind_some hr
       refine wi tk h31 rfl rfl rfl rfl rfl ?_
       refine rn tk 1 rfl ?_
       obtain ⟨v32, h33, hr⟩ := bind_some hr
       refine cl (command_address_run _ _ h33) rfl rfl ?_
       refine rn tk 17 rfl ?_
       refine wn tk rfl rfl rfl ?_
       refine rn tk 3 rfl ?_
       refine ac 79 hr rfl (fun c34 hr => ?_) (fun c34 hr => ?_)
       ·
        refine rn tk 2 rfl ?_
        obtain ⟨v35, h36, hr⟩ := bind_some hr
        refine wlL tk h36 rfl rfl rfl (fun _ => rfl) rfl ?_
        obtain ⟨v37, h38, hr⟩ := bind_some hr
        refine cl (command_option_run _ _ _ h38) rfl rfl ?_
        refine rn tk 2 rfl ?_
        obtain ⟨v39, h40, hr⟩ := bind_some hr
        refine cl (command_told_run _ _ _ h40) rfl rfl ?_
        refine rn tk 8 rfl ?_
        exact jn ((v32.2, v39.2, ([] : Str), v32.1, 0, v39.1, false)) hr rfl rfl
       ·
        refine rn tk 2 rfl ?_
        exact jn ((v32.2, true, ([] : Str), v32.1, 0, 1, false)) hr rfl rfl
    ·
     refine rn tk 6 rfl ?_
     refine ac 90 hr rfl (fun c41 hr => ?_) (fun c41 hr => ?_)
     ·
      refine rn tk 4 rfl ?_
      refine il (fn := Tryz.f47) (args := [.i 1, .i 2, .ep [pL cS a1]]) 800000 899999 [(3, .ep [pL cS a1]), (4, .ptr 4 0), (6, .ptr 6 0)] rfl ⟨Tryz.func47, rfl, by kernel_rfl⟩ rfl rfl rfl fun T8 ds8 => ?_
      refine rn tk 5 rfl ?_
      refine jb hr (fun j42 => [(5, .bo j42)]) (fun j42 => [(899999, .sus g0.w.heap.size ds8), (800003, .hold (.ep [pL cS a1]) (T8.getD 3 undef)), (800004, .hold (.ptr 4 0) (T8.getD 4 undef)), (800006, .hold (.ptr 6 0) (T8.getD 6 undef)), (6, .cells [.i a0, .s (([] : Str)), .s (([] : Str)), .i 0, .i 0, .bo false]), (4, .cells [.i 0, .s (([] : Str)), .s (([] : Str)), .i 0, .i 0, .bo false])]) (fun j42 hr => ?_) (fun j42 hr => ?_)
      ·
       refine rn tk 2 rfl ?_
       refine wn tk rfl rfl rfl ?_
       refine rn tk 3 rfl ?_
       refine bs 10 hr rfl (fun c43 hr => ?_) (fun c43 hr => ?_)
       ·
        refine rn tk 1 rfl ?_
        refine ug rfl rfl rfl ?_
        refine wn tk rfl rfl rfl ?_
        refine rn tk 5 rfl ?_
        cases hr
        exact jn _ rfl rfl rfl
       ·
        refine rn tk 7 rfl ?_
        cases hr
        exact jn _ rfl rfl rfl
      ·
       refine rn tk 1 rfl ?_
       refine ie tk [.bo j42] [(3, .ep [pL cS a1]), (4, .ptr 4 0), (6, .ptr 6 0)] [(6, .cells [.i a0, .s (([] : Str)), .s (([] : Str)), .i 0, .i 0, .bo false]), (4, .cells [.i 0, .s (([] : Str)), .s (([] : Str)), .i 0, .i 0, .bo false])] (.inr rfl) rfl rfl rfl rfl (hO ?_)
       refine rn tk 3 rfl ?_
       refine ac 94 hr rfl (fun c44 hr => ?_) (fun c44 hr => ?_)
       ·
        refine rn tk 11 rfl ?_
        cases hr
        exact kr tk (.inr rfl) rfl rfl
       ·
        refine rn tk 5 rfl ?_
        obtain ⟨v45, h46, hr⟩ := bind_some hr
        refine wi tk h46 rfl rfl rfl rfl rfl ?_
        refine rn tk 1 rfl ?_
        obtain ⟨v47, h48, hr⟩ := bind_some hr
        refine cl (command_number_run _ _ h48) rfl rfl ?_
        refine rn tk 11 rfl ?_
        refine wn tk rfl rfl rfl ?_
        refine rn tk 10 rfl ?_
        refine bs 111 hr rfl (fun c49 hr => ?_) (fun c49 hr => ?_)
        ·
         refine rn tk 9 rfl ?_
         exact jn ((v47.2, true, ([] : Str), ([] : Str), v47.1, 0, ((a1.length : Int) == 2))) hr rfl rfl
        ·
         refine rn tk 1 rfl ?_
         obtain ⟨v50, h51, hr⟩ := bind_some hr
         refine ug rfl rfl rfl ?_
         refine wi tk h51 rfl rfl rfl rfl rfl ?_
         refine rn tk 1 rfl ?_
         obtain ⟨v52, h53, hr⟩ := bind_some hr
         refine ug rfl rfl rfl ?_
         refine cl (basic_Lower_run _ _ h53) rfl rfl ?_
         refine rn tk 5 rfl ?_
         exact jn ((v47.2, (v52 == ([108, 97, 115, 116] : Str)), ([] : Str), ([] : Str), v47.1, 0, ((a1.length : Int) == 2))) hr rfl rfl
     ·
      refine rn tk 1 rfl ?_
      obtain ⟨v54, h55, hr⟩ := bind_some hr
      refine dr 3 [(18, .bo v54), (17, .fn (.func 47) [] [.ep [pL cS a1]]), (16, .agg [.i a0, .s (([] : Str)), .s (([] : Str)), .i 0, .i 0, .bo false])] mixed (by kernel_rfl) rfl rfl (pq tk rfl (.plain rfl) (pq tk rfl (.plain rfl) (.run (.plain rfl) (opG_callV rfl (command_read_1_run 0 0 a1 v54 h55) rfl) .nil))) rfl ?_
      refine rn tk 7 rfl ?_
      cases hr
      exact kr tk (.inr rfl) rfl rfl
 ·
  intro j1 hr
  unfold command_read_k1 at hr
  refine jb hr (fun j2 => [(4, .ptr 4 0), (5, .bo j2)]) (fun j2 => [(4, .cells [.i a0, .s j1.2.2.1, .s j1.2.2.2.1, .i j1.2.2.2.2.1, .i j1.2.2.2.2.2.1, .bo j1.2.2.2.2.2.2])]) (fun j2 hr => ?_) (fun j2 hr => ?_)
  ·
   refine rn tk 4 rfl ?_
   refine bs 120 hr rfl (fun c3 hr => ?_) (fun c3 hr => ?_)
   ·
    refine rn tk 5 rfl ?_
    cases hr
    exact jn _ rfl rfl rfl
   ·
    refine rn tk 5 rfl ?_
    cases hr
    exact jn _ rfl rfl rfl
  ·
   refine rn tk 1 rfl ?_
   cases hr
   exact kr tk (.inr rfl) rfl rfl
theorem command_words_run  (r : Str × Str × Str × Str × Str × Str × Str × Str) (hr : command_words = some r) : Run Tryz.prog 17 [] (.agg [.s r.1, .s r.2.1, .s r.2.2.1, .s r.2.2.2.1, .s r.2.2.2.2.1, .s r.2.2.2.2.2.1, .s r.2.2.2.2.2.2.1, .s r.2.2.2.2.2.2.2]) := by
 unfold command_words at hr
 refine rf (fn := Tryz.f17) ⟨Tryz.func17, rfl, by kernel_rfl⟩ rfl (fun _ => rfl) fun g0 hg => ?_
 refine rn tk 7 rfl ?_
 refine wq (ev_buildA (cs := [.s (([104, 101, 108, 108, 111] : Str)), .s (([109, 97, 105, 108] : Str)), .s (([114, 99, 112, 116] : Str)), .s (([100, 97, 116, 97] : Str)), .s (([99, 104, 117, 110, 107] : Str)), .s (([114, 101, 115, 101, 116] : Str)), .s (([110, 111, 111, 112] : Str)), .s (([113, 117, 105, 116] : Str))]) ty__8_string ty_string (.inr ⟨rfl, rfl⟩) (by kernel_rfl)) rfl rfl rfl ?_
 refine rn tk 4 rfl ?_
 cases hr
 exact kr tk (.inr rfl) rfl rfl
theorem command_Parse_run (a0 : Str) (r : TCommand × TFault) (hr : command_Parse a0 = some r) : Run Tryz.prog 10 [.s a0] (.tup [.agg [.i r.1.Verb, .s r.1.Name, .s r.1.Address, .i r.1.Size, .i r.1.Notify, .bo r.1.Last], .agg [.i r.2.Code, .i r.2.Index]]) := by
 unfold command_Parse at hr
 refine rf (fn := Tryz.f10) ⟨Tryz.func10, rfl, by kernel_rfl⟩ rfl (fun _ => rfl) fun g0 hg => ?_
 refine rn tk 14 rfl ?_
 refine ac 13 hr rfl (fun c1 hr => ?_) (fun c1 hr => ?_)
 ·
  refine rn tk 3 rfl ?_
  obtain ⟨v2, h3, hr⟩ := bind_some hr
  refine cl (basic_Fault_run _ _ _ h3) rfl rfl ?_
  refine rn tk 6 rfl ?_
  cases hr
  exact kr tk (.inr rfl) rfl rfl
 ·
  refine rn tk 5 rfl ?_
  obtain ⟨v4, h5, hr⟩ := bind_some hr
  refine cl (strings_FieldsFunc_sp_run _ _ h5) rfl rfl ?_
  refine rn tk 11 rfl ?_
  obtain ⟨v6, h7, hr⟩ := bind_some hr
  refine cl (command_words_run _ h7) rfl rfl ?_
  refine rn tk 4 rfl ?_
  refine al1 hr (fun s8 => [(2, .ptr 2 0), (3, .ptr 3 0), (4, .l cS v4), (5, .i s8.1), (18, .agg [.s v6.1, .s v6.2.1, .s v6.2.2.1, .s v6.2.2.2.1, .s v6.2.2.2.2.1, .s v6.2.2.2.2.2.1, .s v6.2.2.2.2.2.2.1, .s v6.2.2.2.2.2.2.2]), (19, .i s8.2)]) (fun s8 => [(3, .cells [.i 0, .i 0]), (2, .cells [.i 0, .s (([] : Str)), .s (([] : Str)), .i 0, .i 0, .bo false])]) (.exit 0) (fun b9 => [(2, .ptr 2 0), (3, .ptr 3 0), (4, .l cS v4), (5, .i b9)]) (fun b9 => [(3, .cells [.i 0, .i 0]), (2, .cells [.i 0, .s (([] : Str)), .s (([] : Str)), .i 0, .i 0, .bo false])]) rfl rfl (fun s8 x10 hr => ?_) (fun b9 hr => ?_)
  ·
   unfold command_Parse_l1 at hr
   refine rn tk 6 rfl ?_
   refine ac 20 hr rfl (fun c11 hr => ?_) (fun c11 hr => ?_)
   ·
    refine rn tk 2 rfl ?_
    refine jb hr (fun j12 => [(2, .ptr 2 0), (3, .ptr 3 0), (4, .l cS v4), (5, .i j12), (18, .agg [.s v6.1, .s v6.2.1, .s v6.2.2.1, .s v6.2.2.2.1, .s v6.2.2.2.2.1, .s v6.2.2.2.2.2.1, .s v6.2.2.2.2.2.2.1, .s v6.2.2.2.2.2.2.2]), (19, .i s8.2)]) (fun j12 => [(3, .cells [.i 0, .i 0]), (2, .cells [.i 0, .s (([] : Str)), .s (([] : Str)), .i 0, .i 0, .bo false])]) (fun j12 hr => ?_) (fun j12 hr => ?_)
    ·
     refine rn tk 4 rfl ?_
     obtain ⟨v13, h14, hr⟩ := bind_some hr
     refine wq (ev_aidx (f := cS) (L := ([v6.1, v6.2.1, v6.2.2.1, v6.2.2.2.1, v6.2.2.2.2.1, v6.2.2.2.2.2.1, v6.2.2.2.2.2.2.1, v6.2.2.2.2.2.2.2] : List Str)) rfl rfl ty__8_string ty_string rfl rfl (fun _ => rfl) h14 rfl) rfl rfl rfl ?_
     refine rn tk 4 rfl ?_
     refine jb hr (fun j15 => [(2, .ptr 2 0), (3, .ptr 3 0), (4, .l cS v4), (5, .i s8.1), (6, .i s8.2), (18, .agg [.s v6.1, .s v6.2.1, .s v6.2.2.1, .s v6.2.2.2.1, .s v6.2.2.2.2.1, .s v6.2.2.2.2.2.1, .s v6.2.2.2.2.2.2.1, .s v6.2.2.2.2.2.2.2]), (19, .i s8.2), (33, .bo j15)]) (fun j15 => [(3, .cells [.i 0, .i 0]), (2, .cells [.i 0, .s (([] : Str)), .s (([] : Str)), .i 0, .i 0, .bo false])]) (fun j15 hr => ?_) (fun j15 hr => ?_)
     ·
      refine rn tk 2 rfl ?_
      refine wn tk rfl rfl rfl ?_
      refine rn tk 2 rfl ?_
      refine bs 26 hr rfl (fun c16 hr => ?_) (fun c16 hr => ?_)
      ·
       refine rn tk 1 rfl ?_
       obtain ⟨v17, h18, hr⟩ := bind_some hr
       refine ug rfl rfl rfl ?_
       refine wi tk h18 rfl rfl rfl rfl rfl ?_
       refine rn tk 1 rfl ?_
       obtain ⟨v19, h20, hr⟩ := bind_some hr
       refine ug rfl rfl rfl ?_
       refine cl (basic_Lower_run _ _ h20) rfl rfl ?_
       refine rn tk 4 rfl ?_
       cases hr
       exact jn _ rfl rfl rfl
      ·
       refine rn tk 8 rfl ?_
       cases hr
       exact jn _ rfl rfl rfl
     ·
      refine ac 33 hr rfl (fun c21 hr => ?_) (fun c21 hr => ?_)
      ·
       refine rn tk 6 rfl ?_
       cases hr
       exact jn _ rfl rfl rfl
      ·
       refine rn tk 2 rfl ?_
       cases hr
       exact jn _ rfl rfl rfl
    ·
     refine rn tk 4 rfl ?_
     cases hr
     exact atc rfl rfl
   ·
    refine rn tk 2 rfl ?_
    cases hr
    exact ato rfl rfl rfl rfl
  ·
   refine rn tk 9 rfl ?_
   refine ac 38 hr rfl (fun c22 hr => ?_) (fun c22 hr => ?_)
   ·
    refine rn tk 3 rfl ?_
    obtain ⟨v23, h24, hr⟩ := bind_some hr
    refine cl (basic_Fault_run _ _ _ h24) rfl rfl ?_
    refine rn tk 6 rfl ?_
    cases hr
    exact kr tk (.inr rfl) rfl rfl
   ·
    refine rn tk 6 rfl ?_
    obtain ⟨v25, h26, hr⟩ := bind_some hr
    refine wlL tk h26 rfl rfl rfl (fun _ => rfl) rfl ?_
    obtain ⟨v27, h28, hr⟩ := bind_some hr
    refine cl (command_read_run _ _ _ h28) rfl rfl ?_
    refine rn tk 15 rfl ?_
    refine ac 49 hr rfl (fun c29 hr => ?_) (fun c29 hr => ?_)
    ·
     refine rn tk 3 rfl ?_
     obtain ⟨v30, h31, hr⟩ := bind_some hr
     refine cl (basic_Fault_run _ _ _ h31) rfl rfl ?_
     refine rn tk 6 rfl ?_
     cases hr
     exact kr tk (.inr rfl) rfl rfl
    ·
     refine rn tk 6 rfl ?_
     obtain ⟨v32, h33, hr⟩ := bind_some hr
     refine cl (command_Validate_run _ _ h33) rfl rfl ?_
     refine rn tk 7 rfl ?_
     obtain ⟨v34, h35, hr⟩ := bind_some hr
     refine cl (basic_Failed_run _ _ h35) rfl rfl ?_
     refine rn tk 2 rfl ?_
     refine ac 55 hr rfl (fun c36 hr => ?_) (fun c36 hr => ?_)
     ·
      refine rn tk 1 rfl ?_
      refine drX 2 3 3 3 [1] [(57, .agg [.i v32.Code, .i v32.Index]), (56, .agg [.i 0, .s (([] : Str)), .s (([] : Str)), .i 0, .i 0, .bo false])] [(2, .ptr 2 0), (3, .ptr 3 0), (57, .agg [.i v32.Code, .i v32.Index])] [(10, .cells [.i v32.Code, .i v32.Index]), (8, .cells [.i v27.1.Verb, .s v27.1.Name, .s v27.1.Address, .i v27.1.Size, .i v27.1.Notify, .bo v27.1.Last]), (3, .cells [.i 0, .i 0]), (2, .cells [.i 0, .s (([] : Str)), .s (([] : Str)), .i 0, .i 0, .bo false])] tk mixed (by kernel_rfl) rfl rfl rfl (pqX tk rfl (.plain rfl) (pqX tk rfl (.plain rfl) .nil)) rfl rfl rfl rfl (by kernel_rfl) ?_
      refine rn tk 5 rfl ?_
      cases hr
      exact kr tk (.inr rfl) rfl rfl
     ·
      refine rn tk 3 rfl ?_
      obtain ⟨v37, h38, hr⟩ := bind_some hr
      refine dr 2 [(59, .agg [.i v37.Code, .i v37.Index]), (58, .agg [.i v27.1.Verb, .s v27.1.Name, .s v27.1.Address, .i v27.1.Size, .i v27.1.Notify, .bo v27.1.Last])] mixed (by kernel_rfl) rfl rfl (pq tk rfl (.plain rfl) (.run (.plain rfl) (opG_call (basic_None_run  v37 h38) rfl) .nil)) rfl ?_
      refine rn tk 5 rfl ?_
      cases hr
      exact kr tk (.inr rfl) rfl rfl
theorem command_Print_run (a0 : TCommand) (r : Str × TFault) (hr : command_Print a0 = some r) : Run Tryz.prog 6 [.agg [.i a0.Verb, .s a0.Name, .s a0.Address, .i a0.Size, .i a0.Notify, .bo a0.Last]] (.tup [.s r.1, .agg [.i r.2.Code, .i r.2.Index]]) := by
 unfold command_Print at hr
 refine rf (fn := Tryz.f6) ⟨Tryz.func6, rfl, by kernel_rfl⟩ rfl (fun _ => rfl) fun g0 hg => ?_
 refine rn tk 11 rfl ?_
 obtain ⟨v1, h2, hr⟩ := bind_some hr
 refine cl (command_Validate_run _ _ h2) rfl rfl ?_
 refine rn tk 7 rfl ?_
 obtain ⟨v3, h4, hr⟩ := bind_some hr
 refine cl (basic_Failed_run _ _ h4) rfl rfl ?_
 refine rn tk 2 rfl ?_
 refine ac 9 hr rfl (fun c5 hr => ?_) (fun c5 hr => ?_)
 ·
  refine rn tk 1 rfl ?_
  refine dr 2 [(2, .s (([] : Str))), (10, .agg [.i v1.Code, .i v1.Index])] mixed (by kernel_rfl) rfl rfl (pq tk rfl (.plain rfl) (pq tk rfl (.plain rfl) .nil)) rfl ?_
  refine rn tk 5 rfl ?_
  cases hr
  exact kr tk (.inr rfl) rfl rfl
 ·
  refine rn tk 3 rfl ?_
  obtain ⟨v6, h7, hr⟩ := bind_some hr
  refine dr 4 [(14, .i ((w64 (a0.Verb - 1)))), (13, .i a0.Verb), (12, .ptr 1 0), (11, .agg [.s v6.1, .s v6.2.1, .s v6.2.2.1, .s v6.2.2.2.1, .s v6.2.2.2.2.1, .s v6.2.2.2.2.2.1, .s v6.2.2.2.2.2.2.1, .s v6.2.2.2.2.2.2.2])] mixed (by kernel_rfl) rfl rfl (.run (.plain rfl) (opG_call (command_words_run  v6 h7) rfl) (pq tk rfl (.plain rfl) (pq tk rfl (.plain rfl) (pq tk rfl (.plain rfl) .nil)))) rfl ?_
  obtain ⟨v8, h9, hr⟩ := bind_some hr
  refine wq (ev_aidx (f := cS) (L := ([v6.1, v6.2.1, v6.2.2.1, v6.2.2.2.1, v6.2.2.2.2.1, v6.2.2.2.2.2.1, v6.2.2.2.2.2.2.1, v6.2.2.2.2.2.2.2] : List Str)) rfl rfl ty__8_string ty_string rfl rfl (fun _ => rfl) h9 rfl) rfl rfl rfl ?_
  refine rn tk 3 rfl ?_
  refine jb hr (fun j10 => [(3, .ptr 3 0), (5, .s j10)]) (fun j10 => [(3, .cells [.i 0, .i 0])]) (fun j10 hr => ?_) (fun j10 hr => ?_)
  ·
   refine rn tk 13 rfl ?_
   refine ac 18 hr rfl (fun c11 hr => ?_) (fun c11 hr => ?_)
   ·
    refine rn tk 4 rfl ?_
    obtain ⟨v12, h13, hr⟩ := bind_some hr
    refine wc h13 rfl rfl rfl ?_
    obtain ⟨v14, h15, hr⟩ := bind_some hr
    refine wc h15 rfl rfl rfl ?_
    refine rn tk 3 rfl ?_
    cases hr
    exact jn _ rfl rfl rfl
   ·
    refine rn tk 6 rfl ?_
    refine ac 25 hr rfl (fun c16 hr => ?_) (fun c16 hr => ?_)
    ·
     refine rn tk 5 rfl ?_
     obtain ⟨v17, h18, hr⟩ := bind_some hr
     refine wc h18 rfl rfl rfl ?_
     obtain ⟨v19, h20, hr⟩ := bind_some hr
     refine wc h20 rfl rfl rfl ?_
     obtain ⟨v21, h22, hr⟩ := bind_some hr
     refine wc h22 rfl rfl rfl ?_
     refine rn tk 10 rfl ?_
     refine ac 35 hr rfl (fun c23 hr => ?_) (fun c23 hr => ?_)
     ·
      refine rn tk 4 rfl ?_
      obtain ⟨v24, h25, hr⟩ := bind_some hr
      refine cl (strconv_Itoa_run _ _ h25) rfl rfl ?_
      obtain ⟨v26, h27, hr⟩ := bind_some hr
      refine wc h27 rfl rfl rfl ?_
      obtain ⟨v28, h29, hr⟩ := bind_some hr
      refine wc h29 rfl rfl rfl ?_
      refine rn tk 3 rfl ?_
      cases hr
      exact jn _ rfl rfl rfl
     ·
      refine rn tk 2 rfl ?_
      cases hr
      exact jn _ rfl rfl rfl
    ·
     refine rn tk 6 rfl ?_
     refine ac 42 hr rfl (fun c30 hr => ?_) (fun c30 hr => ?_)
     ·
      refine rn tk 5 rfl ?_
      obtain ⟨v31, h32, hr⟩ := bind_some hr
      refine wc h32 rfl rfl rfl ?_
      obtain ⟨v33, h34, hr⟩ := bind_some hr
      refine wc h34 rfl rfl rfl ?_
      obtain ⟨v35, h36, hr⟩ := bind_some hr
      refine wc h36 rfl rfl rfl ?_
      refine rn tk 10 rfl ?_
      refine ac 52 hr rfl (fun c37 hr => ?_) (fun c37 hr => ?_)
      ·
       refine rn tk 4 rfl ?_
       obtain ⟨v38, h39, hr⟩ := bind_some hr
       refine cl (command_notify_run _ _ h39) rfl rfl ?_
       obtain ⟨v40, h41, hr⟩ := bind_some hr
       refine wc h41 rfl rfl rfl ?_
       obtain ⟨v42, h43, hr⟩ := bind_some hr
       refine wc h43 rfl rfl rfl ?_
       refine rn tk 3 rfl ?_
       cases hr
       exact jn _ rfl rfl rfl
      ·
       refine rn tk 2 rfl ?_
       cases hr
       exact jn _ rfl rfl rfl
     ·
      refine rn tk 6 rfl ?_
      refine ac 59 hr rfl (fun c44 hr => ?_) (fun c44 hr => ?_)
      ·
       refine rn tk 5 rfl ?_
       obtain ⟨v45, h46, hr⟩ := bind_some hr
       refine cl (strconv_Itoa_run _ _ h46) rfl rfl ?_
       obtain ⟨v47, h48, hr⟩ := bind_some hr
       refine wc h48 rfl rfl rfl ?_
       obtain ⟨v49, h50, hr⟩ := bind_some hr
       refine wc h50 rfl rfl rfl ?_
       refine rn tk 9 rfl ?_
       refine ac 68 hr rfl (fun c51 hr => ?_) (fun c51 hr => ?_)
       ·
        refine rn tk 2 rfl ?_
        obtain ⟨v52, h53, hr⟩ := bind_some hr
        refine wc h53 rfl rfl rfl ?_
        refine rn tk 3 rfl ?_
        cases hr
        exact jn _ rfl rfl rfl
       ·
        refine rn tk 2 rfl ?_
        cases hr
        exact jn _ rfl rfl rfl
      ·
       refine rn tk 2 rfl ?_
       cases hr
       exact jn _ rfl rfl rfl
  ·
   refine rn tk 3 rfl ?_
   obtain ⟨v54, h55, hr⟩ := bind_some hr
   refine cl (basic_None_run _ h55) rfl rfl ?_
   refine rn tk 5 rfl ?_
   cases hr
   exact kr tk (.inr rfl) rfl rfl
theorem L_commands_run  (r : Bool) (hr : L_commands = some r) : Run Tryz.prog 8 [] (.bo r) := by
 unfold L_commands at hr
 refine rf (fn := Tryz.f8) ⟨Tryz.func8, rfl, by kernel_rfl⟩ rfl (fun _ => rfl) fun g0 hg => ?_
 refine rn tk 7 rfl ?_
 obtain ⟨v1, h2, hr⟩ := bind_some hr
 refine cl (command_Parse_run _ _ h2) rfl rfl ?_
 refine rn tk 12 rfl ?_
 obtain ⟨v3, h4, hr⟩ := bind_some hr
 refine cl (command_Print_run _ _ h4) rfl rfl ?_
 refine rn tk 10 rfl ?_
 obtain ⟨v5, h6, hr⟩ := bind_some hr
 refine cl (command_Parse_run _ _ h6) rfl rfl ?_
 refine rn tk 9 rfl ?_
 refine jb hr (fun j7 => [(0, .bo j7)]) (fun j7 => []) (fun j7 hr => ?_) (fun j7 hr => ?_)
 ·
  refine bool_split ((v1.2.Code == 0)) (fun c8 => ?_) (fun c8 => ?_)
  ·
   replace hr := cond_t c8 hr
   refine bool_split ((v3.2.Code == 0)) (fun c9 => ?_) (fun c9 => ?_)
   ·
    replace hr := cond_t c9 hr
    obtain ⟨v10, h11, hr⟩ := bind_some hr
    refine bool_split ((allEq [(v5.2.Code == v10.Code), (v5.2.Index == v10.Index)])) (fun c12 => ?_) (fun c12 => ?_)
    ·
     replace hr := cond_t c12 hr
     refine dr 16 [(35, .agg [.i 2, .s (([] : Str)), .s (([97, 64, 98] : Str)), .i 10, .i 0, .bo false]), (34, .agg [.i v1.1.Verb, .s v1.1.Name, .s v1.1.Address, .i v1.1.Size, .i v1.1.Notify, .bo v1.1.Last]), (33, .bo ((allEq [(v5.2.Code == v10.Code), (v5.2.Index == v10.Index)]))), (32, .bo ((allEq [(v5.2.Code == v10.Code), (v5.2.Index == v10.Index)]))), (31, .bo ((allEq [(v5.2.Code == v10.Code), (v5.2.Index == v10.Index)]))), (30, .agg [.i v10.Code, .i v10.Index]), (29, .agg [.i v5.2.Code, .i v5.2.Index]), (28, .bo ((v3.2.Code == 0))), (27, .bo ((v3.2.Code == 0))), (26, .bo ((v3.2.Code == 0))), (25, .i v3.2.Code), (24, .ptr 4 0), (23, .bo ((v1.2.Code == 0))), (22, .bo ((v1.2.Code == 0))), (21, .i v1.2.Code), (20, .ptr 2 0)] mixed (by kernel_rfl) rfl rfl (pq tk rfl (.plain rfl) (pq tk rfl (.plain rfl) (pq tk rfl (.plain rfl) (pq tk rfl (.plain rfl) (pq tk rfl (.yes (d := 23) rfl rfl rfl c8) (pq tk rfl (.yes (d := 23) rfl rfl rfl c8) (pq tk rfl (.yes (d := 23) rfl rfl rfl c8) (.run (.plain rfl) (opG_q (ev_pick_t rfl c8)) (pq tk rfl (.plain rfl) (pq tk rfl (.yes (d := 28) rfl rfl rfl c9) (.run (.yes (d := 28) rfl rfl rfl c9) (opG_call (R_At_run 11 ((-3)) v10 h11) rfl) (.run (.yes (d := 28) rfl rfl rfl c9) (opG_q (ev_structeq rfl rfl ty_api_Fault cmp_api_Fault (.int rfl (by decide) ty_int (.int rfl (by decide) ty_int .nil)))) (.run (.plain rfl) (opG_q (ev_pick_t rfl c9)) (pq tk rfl (.plain rfl) (pq tk rfl (.yes (d := 33) rfl rfl rfl c12) (pq tk rfl (.yes (d := 33) rfl rfl rfl c12) .nil)))))))))))))))) rfl ?_
     refine kn 33 c12 rfl ?_
     refine ug rfl rfl rfl ?_
     refine wq (ev_structeq rfl rfl ty_api_Command cmp_api_Command (.int rfl (by decide) ty_int (.str rfl (by decide) ty_string (.str rfl (by decide) ty_string (.int rfl (by decide) ty_int (.int rfl (by decide) ty_int (.bool rfl (by decide) ty_bool .nil))))))) rfl rfl rfl ?_
     refine rn tk 2 rfl ?_
     refine bs 38 hr rfl (fun c13 hr => ?_) (fun c13 hr => ?_)
     ·
      refine rn tk 4 rfl ?_
      refine bs 42 hr rfl (fun c14 hr => ?_) (fun c14 hr => ?_)
      ·
       refine rn tk 1 rfl ?_
       obtain ⟨v15, h16, hr⟩ := bind_some hr
       refine ug rfl rfl rfl ?_
       refine cl (command_Validate_run _ _ h16) rfl rfl ?_
       obtain ⟨v17, h18, hr⟩ := bind_some hr
       refine ug rfl rfl rfl ?_
       refine cl (R_At_run _ _ _ h18) rfl rfl ?_
       refine ug rfl rfl rfl ?_
       refine wq (ev_structeq rfl rfl ty_api_Fault cmp_api_Fault (.int rfl (by decide) ty_int (.int rfl (by decide) ty_int .nil))) rfl rfl rfl ?_
       refine rn tk 3 rfl ?_
       cases hr
       exact jn _ rfl rfl rfl
      ·
       refine rn tk 7 rfl ?_
       cases hr
       exact jn _ rfl rfl rfl
     ·
      refine rn tk 11 rfl ?_
      cases hr
      exact jn _ rfl rfl rfl
    ·
     replace hr := cond_f c12 hr
     refine dr 16 [(35, .tup []), (34, .tup []), (33, .bo ((allEq [(v5.2.Code == v10.Code), (v5.2.Index == v10.Index)]))), (32, .bo ((allEq [(v5.2.Code == v10.Code), (v5.2.Index == v10.Index)]))), (31, .bo ((allEq [(v5.2.Code == v10.Code), (v5.2.Index == v10.Index)]))), (30, .agg [.i v10.Code, .i v10.Index]), (29, .agg [.i v5.2.Code, .i v5.2.Index]), (28, .bo ((v3.2.Code == 0))), (27, .bo ((v3.2.Code == 0))), (26, .bo ((v3.2.Code == 0))), (25, .i v3.2.Code), (24, .ptr 4 0), (23, .bo ((v1.2.Code == 0))), (22, .bo ((v1.2.Code == 0))), (21, .i v1.2.Code), (20, .ptr 2 0)] mixed (by kernel_rfl) rfl rfl (pq tk rfl (.plain rfl) (pq tk rfl (.plain rfl) (pq tk rfl (.plain rfl) (pq tk rfl (.plain rfl) (pq tk rfl (.yes (d := 23) rfl rfl rfl c8) (pq tk rfl (.yes (d := 23) rfl rfl rfl c8) (pq tk rfl (.yes (d := 23) rfl rfl rfl c8) (.run (.plain rfl) (opG_q (ev_pick_t rfl c8)) (pq tk rfl (.plain rfl) (pq tk rfl (.yes (d := 28) rfl rfl rfl c9) (.run (.yes (d := 28) rfl rfl rfl c9) (opG_call (R_At_run 11 ((-3)) v10 h11) rfl) (.run (.yes (d := 28) rfl rfl rfl c9) (opG_q (ev_structeq rfl rfl ty_api_Fault cmp_api_Fault (.int rfl (by decide) ty_int (.int rfl (by decide) ty_int .nil)))) (.run (.plain rfl) (opG_q (ev_pick_t rfl c9)) (pq tk rfl (.plain rfl) (.skip (.no (d := 33) rfl rfl rfl c12) (.skip (.no (d := 33) rfl rfl rfl c12) .nil)))))))))))))))) rfl ?_
     refine kn 33 c12 rfl ?_
     refine rn tk 14 rfl ?_
     cases hr
     exact jn _ rfl rfl rfl
   ·
    replace hr := cond_f c9 hr
    refine dr 16 [(35, .tup []), (34, .tup []), (33, .bo false), (32, .bo false), (31, .tup []), (30, .tup []), (29, .tup []), (28, .bo ((v3.2.Code == 0))), (27, .bo ((v3.2.Code == 0))), (26, .bo ((v3.2.Code == 0))), (25, .i v3.2.Code), (24, .ptr 4 0), (23, .bo ((v1.2.Code == 0))), (22, .bo ((v1.2.Code == 0))), (21, .i v1.2.Code), (20, .ptr 2 0)] mixed (by kernel_rfl) rfl rfl (pq tk rfl (.plain rfl) (pq tk rfl (.plain rfl) (pq tk rfl (.plain rfl) (pq tk rfl (.plain rfl) (pq tk rfl (.yes (d := 23) rfl rfl rfl c8) (pq tk rfl (.yes (d := 23) rfl rfl rfl c8) (pq tk rfl (.yes (d := 23) rfl rfl rfl c8) (.run (.plain rfl) (opG_q (ev_pick_t rfl c8)) (pq tk rfl (.plain rfl) (.skip (.no (d := 28) rfl rfl rfl c9) (.skip (.no (d := 28) rfl rfl rfl c9) (.skip (.no (d := 28) rfl rfl rfl c9) (.run (.plain rfl) (opG_q (ev_pick_f rfl c9)) (pq tk rfl (.plain rfl) (.skip (.no (d := 33) rfl rfl rfl rfl) (.skip (.no (d := 33) rfl rfl rfl rfl) .nil)))))))))))))))) rfl ?_
    refine rn tk 14 rfl ?_
    cases hr
    exact jn _ rfl rfl rfl
  ·
   replace hr := cond_f c8 hr
   refine dr 16 [(35, .tup []), (34, .tup []), (33, .bo false), (32, .bo false), (31, .tup []), (30, .tup []), (29, .tup []), (28, .bo false), (27, .bo false), (26, .tup []), (25, .tup []), (24, .tup []), (23, .bo ((v1.2.Code == 0))), (22, .bo ((v1.2.Code == 0))), (21, .i v1.2.Code), (20, .ptr 2 0)] mixed (by kernel_rfl) rfl rfl (pq tk rfl (.plain rfl) (pq tk rfl (.plain rfl) (pq tk rfl (.plain rfl) (pq tk rfl (.plain rfl) (.skip (.no (d := 23) rfl rfl rfl c8) (.skip (.no (d := 23) rfl rfl rfl c8) (.skip (.no (d := 23) rfl rfl rfl c8) (.run (.plain rfl) (opG_q (ev_pick_f rfl c8)) (pq tk rfl (.plain rfl) (.skip (.no (d := 28) rfl rfl rfl rfl) (.skip (.no (d := 28) rfl rfl rfl rfl) (.skip (.no (d := 28) rfl rfl rfl rfl) (pq tk rfl (.plain rfl) (pq tk rfl (.plain rfl) (.skip (.no (d := 33) rfl rfl rfl rfl) (.skip (.no (d := 33) rfl rfl rfl rfl) .nil)))))))))))))))) rfl ?_
   refine rn tk 14 rfl ?_
   cases hr
   exact jn _ rfl rfl rfl
 ·
  refine rn tk 1 rfl ?_
  cases hr
  exact kr tk (.inr rfl) rfl rfl
theorem R_In_run (a0 : Int) (a1 : Int) (a2 : Int) (r : Bool) (hr : R_In a0 a1 a2 = some r) : Run Tryz.prog 12 [.i a0, .i a1, .i a2] (.bo r) := by
 unfold R_In at hr
 refine rf (fn := Tryz.f12) ⟨Tryz.func12, rfl, by kernel_rfl⟩ rfl (fun _ => rfl) fun g0 hg => ?_
 refine rn tk 5 rfl ?_
 refine jb hr (fun j1 => [(6, .bo j1)]) (fun j1 => []) (fun j1 hr => ?_) (fun j1 hr => ?_)
 ·
  refine rn tk 5 rfl ?_
  refine bs 10 hr rfl (fun c2 hr => ?_) (fun c2 hr => ?_)
  ·
   refine rn tk 6 rfl ?_
   cases hr
   exact jn _ rfl rfl rfl
  ·
   refine rn tk 6 rfl ?_
   cases hr
   exact jn _ rfl rfl rfl
 ·
  refine rn tk 1 rfl ?_
  cases hr
  exact kr tk (.inr rfl) rfl rfl
theorem R_Amount_run (a0 : Str) (r : Int) (hr : R_Amount a0 = some r) : Run Tryz.prog 35 [.s a0] (.i r) := by
 unfold R_Amount at hr
 refine rf (fn := Tryz.f35) ⟨Tryz.func35, rfl, by kernel_rfl⟩ rfl (fun _ => rfl) fun g0 hg => ?_
 refine rn tk 6 rfl ?_
 refine jb hr (fun j1 => [(0, .s a0), (18, .bo j1)]) (fun j1 => []) (fun j1 hr => ?_) (fun j1 hr => ?_)
 ·
  refine rn tk 3 rfl ?_
  obtain ⟨v2, h3, hr⟩ := bind_some hr
  refine cl (R_In_run _ _ _ _ h3) rfl rfl ?_
  refine rn tk 2 rfl ?_
  refine bs 9 hr rfl (fun c4 hr => ?_) (fun c4 hr => ?_)
  ·
   refine rn tk 10 rfl ?_
   cases hr
   exact jn _ rfl rfl rfl
  ·
   refine rn tk 4 rfl ?_
   refine bs 13 hr rfl (fun c5 hr => ?_) (fun c5 hr => ?_)
   ·
    refine rn tk 1 rfl ?_
    obtain ⟨v6, h7, hr⟩ := bind_some hr
    refine ug rfl rfl rfl ?_
    refine ws tk h7 rfl rfl rfl rfl ?_
    refine rn tk 4 rfl ?_
    cases hr
    exact jn _ rfl rfl rfl
   ·
    refine rn tk 6 rfl ?_
    cases hr
    exact jn _ rfl rfl rfl
 ·
  refine ac 18 hr rfl (fun c8 hr => ?_) (fun c8 hr => ?_)
  ·
   refine rn tk 7 rfl ?_
   cases hr
   exact kr tk (.inr rfl) rfl rfl
  ·
   refine rn tk 14 rfl ?_
   refine al2 hr (fun s9 => [(0, .s a0), (3, .i s9.1), (4, .i s9.2)]) (fun s9 => []) (.exit 0) (fun b10 => [(3, .i b10)]) (fun b10 => []) .ret (fun b11 => [(2, .i b11)]) (fun b11 => []) rfl rfl (fun s9 x13 hr => ?_) (fun b10 hr => ?_) (fun b11 hr => ?_)
   ·
    unfold R_Amount_l1 at hr
    refine rn tk 9 rfl ?_
    refine ac 22 hr rfl (fun c14 hr => ?_) (fun c14 hr => ?_)
    ·
     refine rn tk 9 rfl ?_
     obtain ⟨v15, h16, hr⟩ := bind_some hr
     refine ws tk h16 rfl rfl rfl rfl ?_
     refine wu tk rfl rfl rfl ?_
     obtain ⟨v17, h18, hr⟩ := bind_some hr
     refine cl (R_In_run _ _ _ _ h18) rfl rfl ?_
     refine rn tk 3 rfl ?_
     refine ac 30 hr rfl (fun c19 hr => ?_) (fun c19 hr => ?_)
     ·
      refine rn tk 9 rfl ?_
      cases hr
      exact ato rfl rfl rfl rfl
     ·
      refine rn tk 7 rfl ?_
      obtain ⟨v20, h21, hr⟩ := bind_some hr
      refine ws tk h21 rfl rfl rfl rfl ?_
      refine wq (ev_u8sub (a := v20) (b := (48 : UInt8)) rfl rfl) rfl rfl rfl ?_
      refine wu tk rfl rfl rfl ?_
      refine rn tk 10 rfl ?_
      cases hr
      exact atc rfl rfl
    ·
     refine rn tk 2 rfl ?_
     cases hr
     exact ato rfl rfl rfl rfl
   ·
    refine rn tk 9 rfl ?_
    cases hr
    exact kr tk (.inr rfl) rfl rfl
   ·
    refine rn tk 2 rfl ?_
    cases hr
    exact kr tk (.inr rfl) rfl rfl
theorem R_DomainOk_run (a0 : Str) (r : Bool) (hr : R_DomainOk a0 = some r) : Run Tryz.prog 39 [.s a0] (.bo r) := by
 unfold R_DomainOk at hr
 refine rf (fn := Tryz.f39) ⟨Tryz.func39, rfl, by kernel_rfl⟩ rfl (fun _ => rfl) fun g0 hg => ?_
 refine rn tk 12 rfl ?_
 refine al2 hr (fun s1 => [(0, .s a0), (3, .i s1)]) (fun s1 => []) (.exit 0) (fun b2 => [(0, .s a0)]) (fun b2 => []) .ret (fun b3 => [(2, .bo b3)]) (fun b3 => []) rfl rfl (fun s1 x5 hr => ?_) (fun b2 hr => ?_) (fun b3 hr => ?_)
 ·
  unfold R_DomainOk_l1 at hr
  refine rn tk 9 rfl ?_
  refine ac 8 hr rfl (fun c6 hr => ?_) (fun c6 hr => ?_)
  ·
   refine rn tk 8 rfl ?_
   obtain ⟨v7, h8, hr⟩ := bind_some hr
   refine ws tk h8 rfl rfl rfl rfl ?_
   refine wu tk rfl rfl rfl ?_
   refine rn tk 4 rfl ?_
   refine jb hr (fun j9 => [(0, .s a0), (3, .i s1), (4, .i ((v7.toNat : Int))), (36, .bo j9)]) (fun j9 => []) (fun j9 hr => ?_) (fun j9 hr => ?_)
   ·
    refine rn tk 3 rfl ?_
    obtain ⟨v10, h11, hr⟩ := bind_some hr
    refine ws tk h11 rfl rfl rfl rfl ?_
    refine rn tk 2 rfl ?_
    refine bs 19 hr rfl (fun c12 hr => ?_) (fun c12 hr => ?_)
    ·
     refine rn tk 3 rfl ?_
     refine bs 22 hr rfl (fun c13 hr => ?_) (fun c13 hr => ?_)
     ·
      refine rn tk 15 rfl ?_
      cases hr
      exact jn _ rfl rfl rfl
     ·
      refine rn tk 7 rfl ?_
      refine bs 29 hr rfl (fun c14 hr => ?_) (fun c14 hr => ?_)
      ·
       refine rn tk 8 rfl ?_
       cases hr
       exact jn _ rfl rfl rfl
      ·
       refine rn tk 3 rfl ?_
       obtain ⟨v15, h16, hr⟩ := bind_some hr
       refine ug rfl rfl rfl ?_
       refine ws tk h16 rfl rfl rfl rfl ?_
       refine rn tk 4 rfl ?_
       cases hr
       exact jn _ rfl rfl rfl
    ·
     refine rn tk 18 rfl ?_
     cases hr
     exact jn _ rfl rfl rfl
   ·
    refine ac 36 hr rfl (fun c17 hr => ?_) (fun c17 hr => ?_)
    ·
     refine rn tk 9 rfl ?_
     cases hr
     exact ato rfl rfl rfl rfl
    ·
     refine rn tk 2 rfl ?_
     refine jb hr (fun j18 => [(0, .s a0), (3, .i s1), (56, .bo j18)]) (fun j18 => []) (fun j18 hr => ?_) (fun j18 hr => ?_)
     ·
      refine rn tk 2 rfl ?_
      obtain ⟨v19, h20, hr⟩ := bind_some hr
      refine cl (R_In_run _ _ _ _ h20) rfl rfl ?_
      refine rn tk 2 rfl ?_
      refine bs 40 hr rfl (fun c21 hr => ?_) (fun c21 hr => ?_)
      ·
       refine rn tk 1 rfl ?_
       obtain ⟨v22, h23, hr⟩ := bind_some hr
       refine ug rfl rfl rfl ?_
       refine cl (R_In_run _ _ _ _ h23) rfl rfl ?_
       refine rn tk 3 rfl ?_
       refine bs 45 hr rfl (fun c24 hr => ?_) (fun c24 hr => ?_)
       ·
        refine rn tk 2 rfl ?_
        obtain ⟨v25, h26, hr⟩ := bind_some hr
        refine ug rfl rfl rfl ?_
        refine ws tk h26 rfl rfl rfl rfl ?_
        refine rn tk 3 rfl ?_
        refine bs 51 hr rfl (fun c27 hr => ?_) (fun c27 hr => ?_)
        ·
         refine rn tk 2 rfl ?_
         obtain ⟨v28, h29, hr⟩ := bind_some hr
         refine ug rfl rfl rfl ?_
         refine ws tk h29 rfl rfl rfl rfl ?_
         refine rn tk 3 rfl ?_
         cases hr
         exact jn _ rfl rfl rfl
        ·
         refine rn tk 6 rfl ?_
         cases hr
         exact jn _ rfl rfl rfl
       ·
        refine rn tk 12 rfl ?_
        cases hr
        exact jn _ rfl rfl rfl
      ·
       refine rn tk 17 rfl ?_
       cases hr
       exact jn _ rfl rfl rfl
     ·
      refine ac 56 hr rfl (fun c30 hr => ?_) (fun c30 hr => ?_)
      ·
       refine rn tk 8 rfl ?_
       cases hr
       exact ato rfl rfl rfl rfl
      ·
       refine rn tk 8 rfl ?_
       cases hr
       exact atc rfl rfl
  ·
   refine rn tk 2 rfl ?_
   cases hr
   exact ato rfl rfl rfl rfl
 ·
  refine rn tk 6 rfl ?_
  obtain ⟨v31, h32, hr⟩ := bind_some hr
  refine cl (R_In_run _ _ _ _ h32) rfl rfl ?_
  refine rn tk 4 rfl ?_
  cases hr
  exact kr tk (.inr rfl) rfl rfl
 ·
  refine rn tk 2 rfl ?_
  cases hr
  exact kr tk (.inr rfl) rfl rfl
theorem R_letterOrDigit_run (a0 : UInt8) (r : Bool) (hr : R_letterOrDigit a0 = some r) : Run Tryz.prog 37 [.u8 a0] (.bo r) := by
 unfold R_letterOrDigit at hr
 refine rf (fn := Tryz.f37) ⟨Tryz.func37, rfl, by kernel_rfl⟩ rfl (fun _ => rfl) fun g0 hg => ?_
 refine rn tk 8 rfl ?_
 refine wu tk rfl rfl rfl ?_
 refine rn tk 3 rfl ?_
 refine jb hr (fun j1 => [(2, .bo j1)]) (fun j1 => []) (fun j1 hr => ?_) (fun j1 hr => ?_)
 ·
  refine rn tk 2 rfl ?_
  obtain ⟨v2, h3, hr⟩ := bind_some hr
  refine cl (R_In_run _ _ _ _ h3) rfl rfl ?_
  refine rn tk 1 rfl ?_
  refine bs 8 hr rfl (fun c4 hr => ?_) (fun c4 hr => ?_)
  ·
   refine rn tk 9 rfl ?_
   cases hr
   exact jn _ rfl rfl rfl
  ·
   refine rn tk 1 rfl ?_
   obtain ⟨v5, h6, hr⟩ := bind_some hr
   refine ug rfl rfl rfl ?_
   refine cl (R_In_run _ _ _ _ h6) rfl rfl ?_
   refine rn tk 2 rfl ?_
   refine bs 12 hr rfl (fun c7 hr => ?_) (fun c7 hr => ?_)
   ·
    refine rn tk 5 rfl ?_
    cases hr
    exact jn _ rfl rfl rfl
   ·
    refine rn tk 1 rfl ?_
    obtain ⟨v8, h9, hr⟩ := bind_some hr
    refine ug rfl rfl rfl ?_
    refine cl (R_In_run _ _ _ _ h9) rfl rfl ?_
    refine rn tk 3 rfl ?_
    cases hr
    exact jn _ rfl rfl rfl
 ·
  refine rn tk 1 rfl ?_
  cases hr
  exact kr tk (.inr rfl) rfl rfl
theorem R_sign_run (a0 : Str) (r : Int) (hr : R_sign a0 = some r) : Run Tryz.prog 38 [.s a0] (.i r) := by
 unfold R_sign at hr
 refine rf (fn := Tryz.f38) ⟨Tryz.func38, rfl, by kernel_rfl⟩ rfl (fun _ => rfl) fun g0 hg => ?_
 refine rn tk 12 rfl ?_
 refine al2 hr (fun s1 => [(0, .s a0), (3, .i s1)]) (fun s1 => []) (.exit 0) (fun b2 => [(0, .s a0)]) (fun b2 => []) .ret (fun b3 => [(2, .i b3)]) (fun b3 => []) rfl rfl (fun s1 x5 hr => ?_) (fun b2 hr => ?_) (fun b3 hr => ?_)
 ·
  unfold R_sign_l1 at hr
  refine rn tk 9 rfl ?_
  refine ac 7 hr rfl (fun c6 hr => ?_) (fun c6 hr => ?_)
  ·
   refine rn tk 8 rfl ?_
   obtain ⟨v7, h8, hr⟩ := bind_some hr
   refine ws tk h8 rfl rfl rfl rfl ?_
   refine rn tk 3 rfl ?_
   refine ac 13 hr rfl (fun c9 hr => ?_) (fun c9 hr => ?_)
   ·
    refine rn tk 9 rfl ?_
    cases hr
    exact ato rfl rfl rfl rfl
   ·
    refine rn tk 8 rfl ?_
    cases hr
    exact atc rfl rfl
  ·
   refine rn tk 2 rfl ?_
   cases hr
   exact ato rfl rfl rfl rfl
 ·
  refine rn tk 10 rfl ?_
  cases hr
  exact kr tk (.inr rfl) rfl rfl
 ·
  refine rn tk 2 rfl ?_
  cases hr
  exact kr tk (.inr rfl) rfl rfl
theorem R_AddressOk_run (a0 : Str) (r : Bool) (hr : R_AddressOk a0 = some r) : Run Tryz.prog 15 [.s a0] (.bo r) := by
 unfold R_AddressOk at hr
 refine rf (fn := Tryz.f15) ⟨Tryz.func15, rfl, by kernel_rfl⟩ rfl (fun _ => rfl) fun g0 hg => ?_
 refine rn tk 8 rfl ?_
 obtain ⟨v1, h2, hr⟩ := bind_some hr
 refine cl (R_sign_run _ _ h2) rfl rfl ?_
 refine rn tk 10 rfl ?_
 refine al2 hr (fun s3 => [(0, .s a0), (3, .i v1), (4, .i s3)]) (fun s3 => []) (.exit 0) (fun b4 => [(0, .s a0), (3, .i v1)]) (fun b4 => []) .ret (fun b5 => [(2, .bo b5)]) (fun b5 => []) rfl rfl (fun s3 x7 hr => ?_) (fun b4 hr => ?_) (fun b5 hr => ?_)
 ·
  unfold R_AddressOk_l1 at hr
  refine rn tk 8 rfl ?_
  refine ac 10 hr rfl (fun c8 hr => ?_) (fun c8 hr => ?_)
  ·
   refine rn tk 8 rfl ?_
   obtain ⟨v9, h10, hr⟩ := bind_some hr
   refine ws tk h10 rfl rfl rfl rfl ?_
   refine rn tk 3 rfl ?_
   refine jb hr (fun j11 => [(0, .s a0), (3, .i v1), (4, .i s3), (38, .bo j11)]) (fun j11 => []) (fun j11 hr => ?_) (fun j11 hr => ?_)
   ·
    refine rn tk 2 rfl ?_
    obtain ⟨v12, h13, hr⟩ := bind_some hr
    refine cl (R_letterOrDigit_run _ _ h13) rfl rfl ?_
    refine rn tk 2 rfl ?_
    refine bs 19 hr rfl (fun c14 hr => ?_) (fun c14 hr => ?_)
    ·
     refine rn tk 4 rfl ?_
     refine bs 23 hr rfl (fun c15 hr => ?_) (fun c15 hr => ?_)
     ·
      refine rn tk 4 rfl ?_
      refine bs 27 hr rfl (fun c16 hr => ?_) (fun c16 hr => ?_)
      ·
       refine rn tk 4 rfl ?_
       refine bs 31 hr rfl (fun c17 hr => ?_) (fun c17 hr => ?_)
       ·
        refine rn tk 4 rfl ?_
        refine bs 35 hr rfl (fun c18 hr => ?_) (fun c18 hr => ?_)
        ·
         refine rn tk 4 rfl ?_
         cases hr
         exact jn _ rfl rfl rfl
        ·
         refine rn tk 4 rfl ?_
         cases hr
         exact jn _ rfl rfl rfl
       ·
        refine rn tk 8 rfl ?_
        cases hr
        exact jn _ rfl rfl rfl
      ·
       refine rn tk 12 rfl ?_
       cases hr
       exact jn _ rfl rfl rfl
     ·
      refine rn tk 16 rfl ?_
      cases hr
      exact jn _ rfl rfl rfl
    ·
     refine rn tk 20 rfl ?_
     cases hr
     exact jn _ rfl rfl rfl
   ·
    refine ac 38 hr rfl (fun c19 hr => ?_) (fun c19 hr => ?_)
    ·
     refine rn tk 8 rfl ?_
     cases hr
     exact ato rfl rfl rfl rfl
    ·
     refine rn tk 8 rfl ?_
     cases hr
     exact atc rfl rfl
  ·
   refine rn tk 2 rfl ?_
   cases hr
   exact ato rfl rfl rfl rfl
 ·
  refine rn tk 2 rfl ?_
  refine jb hr (fun j20 => [(2, .bo j20)]) (fun j20 => []) (fun j20 hr => ?_) (fun j20 hr => ?_)
  ·
   refine rn tk 2 rfl ?_
   obtain ⟨v21, h22, hr⟩ := bind_some hr
   refine cl (R_In_run _ _ _ _ h22) rfl rfl ?_
   refine rn tk 1 rfl ?_
   refine bs 41 hr rfl (fun c23 hr => ?_) (fun c23 hr => ?_)
   ·
    refine rn tk 6 rfl ?_
    refine bs 47 hr rfl (fun c24 hr => ?_) (fun c24 hr => ?_)
    ·
     refine rn tk 3 rfl ?_
     obtain ⟨v25, h26, hr⟩ := bind_some hr
     refine ug rfl rfl rfl ?_
     refine wscL tk h26 rfl rfl rfl rfl ?_
     obtain ⟨v27, h28, hr⟩ := bind_some hr
     refine ug rfl rfl rfl ?_
     refine cl (R_DomainOk_run _ _ h28) rfl rfl ?_
     refine rn tk 3 rfl ?_
     cases hr
     exact jn _ rfl rfl rfl
    ·
     refine rn tk 8 rfl ?_
     cases hr
     exact jn _ rfl rfl rfl
   ·
    refine rn tk 14 rfl ?_
    cases hr
    exact jn _ rfl rfl rfl
  ·
   refine rn tk 1 rfl ?_
   cases hr
   exact kr tk (.inr rfl) rfl rfl
 ·
  refine rn tk 2 rfl ?_
  cases hr
  exact kr tk (.inr rfl) rfl rfl
theorem R_NameOk_run (a0 : Str) (r : Bool) (hr : R_NameOk a0 = some r) : Run Tryz.prog 14 [.s a0] (.bo r) := by
 unfold R_NameOk at hr
 refine rf (fn := Tryz.f14) ⟨Tryz.func14, rfl, by kernel_rfl⟩ rfl (fun _ => rfl) fun g0 hg => ?_
 refine rn tk 12 rfl ?_
 refine al2 hr (fun s1 => [(0, .s a0), (3, .i s1)]) (fun s1 => []) (.exit 0) (fun b2 => [(0, .s a0)]) (fun b2 => []) .ret (fun b3 => [(2, .bo b3)]) (fun b3 => []) rfl rfl (fun s1 x5 hr => ?_) (fun b2 hr => ?_) (fun b3 hr => ?_)
 ·
  unfold R_NameOk_l1 at hr
  refine rn tk 9 rfl ?_
  refine ac 7 hr rfl (fun c6 hr => ?_) (fun c6 hr => ?_)
  ·
   refine rn tk 4 rfl ?_
   refine jb hr (fun j7 => [(0, .s a0), (3, .i s1), (32, .bo j7)]) (fun j7 => []) (fun j7 hr => ?_) (fun j7 hr => ?_)
   ·
    refine rn tk 3 rfl ?_
    obtain ⟨v8, h9, hr⟩ := bind_some hr
    refine ws tk h9 rfl rfl rfl rfl ?_
    obtain ⟨v10, h11, hr⟩ := bind_some hr
    refine cl (R_letterOrDigit_run _ _ h11) rfl rfl ?_
    refine rn tk 2 rfl ?_
    refine bs 15 hr rfl (fun c12 hr => ?_) (fun c12 hr => ?_)
    ·
     refine rn tk 2 rfl ?_
     obtain ⟨v13, h14, hr⟩ := bind_some hr
     refine ug rfl rfl rfl ?_
     refine ws tk h14 rfl rfl rfl rfl ?_
     refine rn tk 3 rfl ?_
     refine bs 21 hr rfl (fun c15 hr => ?_) (fun c15 hr => ?_)
     ·
      refine rn tk 2 rfl ?_
      obtain ⟨v16, h17, hr⟩ := bind_some hr
      refine ug rfl rfl rfl ?_
      refine ws tk h17 rfl rfl rfl rfl ?_
      refine rn tk 3 rfl ?_
      refine bs 27 hr rfl (fun c18 hr => ?_) (fun c18 hr => ?_)
      ·
       refine rn tk 2 rfl ?_
       obtain ⟨v19, h20, hr⟩ := bind_some hr
       refine ug rfl rfl rfl ?_
       refine ws tk h20 rfl rfl rfl rfl ?_
       refine rn tk 3 rfl ?_
       cases hr
       exact jn _ rfl rfl rfl
      ·
       refine rn tk 6 rfl ?_
       cases hr
       exact jn _ rfl rfl rfl
     ·
      refine rn tk 12 rfl ?_
      cases hr
      exact jn _ rfl rfl rfl
    ·
     refine rn tk 18 rfl ?_
     cases hr
     exact jn _ rfl rfl rfl
   ·
    refine ac 32 hr rfl (fun c21 hr => ?_) (fun c21 hr => ?_)
    ·
     refine rn tk 8 rfl ?_
     cases hr
     exact ato rfl rfl rfl rfl
    ·
     refine rn tk 8 rfl ?_
     cases hr
     exact atc rfl rfl
  ·
   refine rn tk 2 rfl ?_
   cases hr
   exact ato rfl rfl rfl rfl
 ·
  refine rn tk 6 rfl ?_
  obtain ⟨v22, h23, hr⟩ := bind_some hr
  refine cl (R_In_run _ _ _ _ h23) rfl rfl ?_
  refine rn tk 4 rfl ?_
  cases hr
  exact kr tk (.inr rfl) rfl rfl
 ·
  refine rn tk 2 rfl ?_
  cases hr
  exact kr tk (.inr rfl) rfl rfl
theorem R_CommandFault_run (a0 : TCommand) (r : TFault) (hr : R_CommandFault a0 = some r) : Run Tryz.prog 5 [.agg [.i a0.Verb, .s a0.Name, .s a0.Address, .i a0.Size, .i a0.Notify, .bo a0.Last]] (.agg [.i r.Code, .i r.Index]) := by
 unfold R_CommandFault at hr
 refine rf (fn := Tryz.f5) ⟨Tryz.func5, rfl, by kernel_rfl⟩ rfl (fun _ => rfl) fun g0 hg => ?_
 refine rn tk 17 rfl ?_
 obtain ⟨v1, h2, hr⟩ := bind_some hr
 refine cl (R_In_run _ _ _ _ h2) rfl rfl ?_
 refine rn tk 3 rfl ?_
 refine ac 8 hr rfl (fun c3 hr => ?_) (fun c3 hr => ?_)
 ·
  refine rn tk 2 rfl ?_
  obtain ⟨v4, h5, hr⟩ := bind_some hr
  refine cl (R_At_run _ _ _ h5) rfl rfl ?_
  refine rn tk 5 rfl ?_
  cases hr
  exact kr tk (.inr rfl) rfl rfl
 ·
  refine rn tk 3 rfl ?_
  refine jb hr (fun j6 => [(1, .ptr 1 0), (2, .ptr 2 0), (3, .i a0.Verb), (59, .bo j6)]) (fun j6 => [(2, .cells [.i 0, .i 0]), (1, .cells [.i a0.Verb, .s a0.Name, .s a0.Address, .i a0.Size, .i a0.Notify, .bo a0.Last])]) (fun j6 hr => ?_) (fun j6 hr => ?_)
  ·
   refine rn tk 4 rfl ?_
   refine bs 12 hr rfl (fun c7 hr => ?_) (fun c7 hr => ?_)
   ·
    refine rn tk 5 rfl ?_
    refine bs 17 hr rfl (fun c8 hr => ?_) (fun c8 hr => ?_)
    ·
     refine rn tk 43 rfl ?_
     cases hr
     exact jn _ rfl rfl rfl
    ·
     refine rn tk 3 rfl ?_
     refine bs 20 hr rfl (fun c9 hr => ?_) (fun c9 hr => ?_)
     ·
      refine rn tk 4 rfl ?_
      refine bs 24 hr rfl (fun c10 hr => ?_) (fun c10 hr => ?_)
      ·
       refine rn tk 6 rfl ?_
       refine bs 30 hr rfl (fun c11 hr => ?_) (fun c11 hr => ?_)
       ·
        refine rn tk 30 rfl ?_
        cases hr
        exact jn _ rfl rfl rfl
       ·
        refine rn tk 3 rfl ?_
        refine kn 33 c9 rfl ?_
        refine rn tk 4 rfl ?_
        refine bs 37 hr rfl (fun c12 hr => ?_) (fun c12 hr => ?_)
        ·
         refine rn tk 6 rfl ?_
         refine bs 43 hr rfl (fun c13 hr => ?_) (fun c13 hr => ?_)
         ·
          refine rn tk 17 rfl ?_
          cases hr
          exact jn _ rfl rfl rfl
         ·
          refine rn tk 3 rfl ?_
          refine kn 46 c10 rfl ?_
          refine rn tk 6 rfl ?_
          refine bs 52 hr rfl (fun c14 hr => ?_) (fun c14 hr => ?_)
          ·
           refine rn tk 8 rfl ?_
           cases hr
           exact jn _ rfl rfl rfl
          ·
           refine rn tk 3 rfl ?_
           refine kn 55 c12 rfl ?_
           refine rn tk 5 rfl ?_
           cases hr
           exact jn _ rfl rfl rfl
        ·
         refine rn tk 9 rfl ?_
         refine kn 46 c10 rfl ?_
         refine rn tk 6 rfl ?_
         refine bs 52 hr rfl (fun c15 hr => ?_) (fun c15 hr => ?_)
         ·
          refine rn tk 8 rfl ?_
          cases hr
          exact jn _ rfl rfl rfl
         ·
          refine rn tk 3 rfl ?_
          refine kn 55 c12 rfl ?_
          refine rn tk 5 rfl ?_
          cases hr
          exact jn _ rfl rfl rfl
      ·
       refine rn tk 9 rfl ?_
       refine kn 33 c9 rfl ?_
       refine rn tk 4 rfl ?_
       refine bs 37 hr rfl (fun c16 hr => ?_) (fun c16 hr => ?_)
       ·
        refine rn tk 6 rfl ?_
        refine bs 43 hr rfl (fun c17 hr => ?_) (fun c17 hr => ?_)
        ·
         refine rn tk 17 rfl ?_
         cases hr
         exact jn _ rfl rfl rfl
        ·
         refine rn tk 3 rfl ?_
         refine kn 46 c10 rfl ?_
         refine rn tk 9 rfl ?_
         refine kn 55 c16 rfl ?_
         refine rn tk 5 rfl ?_
         cases hr
         exact jn _ rfl rfl rfl
       ·
        refine rn tk 9 rfl ?_
        refine kn 46 c10 rfl ?_
        refine rn tk 9 rfl ?_
        refine kn 55 c16 rfl ?_
        refine rn tk 5 rfl ?_
        cases hr
        exact jn _ rfl rfl rfl
     ·
      refine rn tk 13 rfl ?_
      refine kn 33 c9 rfl ?_
      refine rn tk 13 rfl ?_
      refine bs 46 hr rfl (fun c18 hr => ?_) (fun c18 hr => ?_)
      ·
       refine rn tk 6 rfl ?_
       refine bs 52 hr rfl (fun c19 hr => ?_) (fun c19 hr => ?_)
       ·
        refine rn tk 8 rfl ?_
        cases hr
        exact jn _ rfl rfl rfl
       ·
        refine rn tk 3 rfl ?_
        refine bs 55 hr rfl (fun c20 hr => ?_) (fun c20 hr => ?_)
        ·
         refine rn tk 5 rfl ?_
         cases hr
         exact jn _ rfl rfl rfl
        ·
         refine rn tk 5 rfl ?_
         cases hr
         exact jn _ rfl rfl rfl
      ·
       refine rn tk 9 rfl ?_
       refine bs 55 hr rfl (fun c21 hr => ?_) (fun c21 hr => ?_)
       ·
        refine rn tk 5 rfl ?_
        cases hr
        exact jn _ rfl rfl rfl
       ·
        refine rn tk 5 rfl ?_
        cases hr
        exact jn _ rfl rfl rfl
   ·
    refine rn tk 8 rfl ?_
    refine bs 20 hr rfl (fun c22 hr => ?_) (fun c22 hr => ?_)
    ·
     refine rn tk 4 rfl ?_
     refine bs 24 hr rfl (fun c23 hr => ?_) (fun c23 hr => ?_)
     ·
      refine rn tk 6 rfl ?_
      refine bs 30 hr rfl (fun c24 hr => ?_) (fun c24 hr => ?_)
      ·
       refine rn tk 30 rfl ?_
       cases hr
       exact jn _ rfl rfl rfl
      ·
       refine rn tk 3 rfl ?_
       refine kn 33 c22 rfl ?_
       refine rn tk 4 rfl ?_
       refine bs 37 hr rfl (fun c25 hr => ?_) (fun c25 hr => ?_)
       ·
        refine rn tk 6 rfl ?_
        refine bs 43 hr rfl (fun c26 hr => ?_) (fun c26 hr => ?_)
        ·
         refine rn tk 17 rfl ?_
         cases hr
         exact jn _ rfl rfl rfl
        ·
         refine rn tk 3 rfl ?_
         refine kn 46 c23 rfl ?_
         refine rn tk 6 rfl ?_
         refine bs 52 hr rfl (fun c27 hr => ?_) (fun c27 hr => ?_)
         ·
          refine rn tk 8 rfl ?_
          cases hr
          exact jn _ rfl rfl rfl
         ·
          refine rn tk 3 rfl ?_
          refine kn 55 c25 rfl ?_
          refine rn tk 5 rfl ?_
          cases hr
          exact jn _ rfl rfl rfl
       ·
        refine rn tk 9 rfl ?_
        refine kn 46 c23 rfl ?_
        refine rn tk 6 rfl ?_
        refine bs 52 hr rfl (fun c28 hr => ?_) (fun c28 hr => ?_)
        ·
         refine rn tk 8 rfl ?_
         cases hr
         exact jn _ rfl rfl rfl
        ·
         refine rn tk 3 rfl ?_
         refine kn 55 c25 rfl ?_
         refine rn tk 5 rfl ?_
         cases hr
         exact jn _ rfl rfl rfl
     ·
      refine rn tk 9 rfl ?_
      refine kn 33 c22 rfl ?_
      refine rn tk 4 rfl ?_
      refine bs 37 hr rfl (fun c29 hr => ?_) (fun c29 hr => ?_)
      ·
       refine rn tk 6 rfl ?_
       refine bs 43 hr rfl (fun c30 hr => ?_) (fun c30 hr => ?_)
       ·
        refine rn tk 17 rfl ?_
        cases hr
        exact jn _ rfl rfl rfl
       ·
        refine rn tk 3 rfl ?_
        refine kn 46 c23 rfl ?_
        refine rn tk 9 rfl ?_
        refine kn 55 c29 rfl ?_
        refine rn tk 5 rfl ?_
        cases hr
        exact jn _ rfl rfl rfl
      ·
       refine rn tk 9 rfl ?_
       refine kn 46 c23 rfl ?_
       refine rn tk 9 rfl ?_
       refine kn 55 c29 rfl ?_
       refine rn tk 5 rfl ?_
       cases hr
       exact jn _ rfl rfl rfl
    ·
     refine rn tk 13 rfl ?_
     refine kn 33 c22 rfl ?_
     refine rn tk 13 rfl ?_
     refine bs 46 hr rfl (fun c31 hr => ?_) (fun c31 hr => ?_)
     ·
      refine rn tk 6 rfl ?_
      refine bs 52 hr rfl (fun c32 hr => ?_) (fun c32 hr => ?_)
      ·
       refine rn tk 8 rfl ?_
       cases hr
       exact jn _ rfl rfl rfl
      ·
       refine rn tk 3 rfl ?_
       refine bs 55 hr rfl (fun c33 hr => ?_) (fun c33 hr => ?_)
       ·
        refine rn tk 5 rfl ?_
        cases hr
        exact jn _ rfl rfl rfl
       ·
        refine rn tk 5 rfl ?_
        cases hr
        exact jn _ rfl rfl rfl
     ·
      refine rn tk 9 rfl ?_
      refine bs 55 hr rfl (fun c34 hr => ?_) (fun c34 hr => ?_)
      ·
       refine rn tk 5 rfl ?_
       cases hr
       exact jn _ rfl rfl rfl
      ·
       refine rn tk 5 rfl ?_
       cases hr
       exact jn _ rfl rfl rfl
  ·
   refine ac 59 hr rfl (fun c35 hr => ?_) (fun c35 hr => ?_)
   ·
    refine rn tk 2 rfl ?_
    obtain ⟨v36, h37, hr⟩ := bind_some hr
    refine cl (R_At_run _ _ _ h37) rfl rfl ?_
    refine rn tk 5 rfl ?_
    cases hr
    exact kr tk (.inr rfl) rfl rfl
   ·
    refine rn tk 3 rfl ?_
    refine jb hr (fun j38 => [(1, .ptr 1 0), (2, .ptr 2 0), (3, .i a0.Verb), (68, .bo j38)]) (fun j38 => [(2, .cells [.i 0, .i 0]), (1, .cells [.i a0.Verb, .s a0.Name, .s a0.Address, .i a0.Size, .i a0.Notify, .bo a0.Last])]) (fun j38 hr => ?_) (fun j38 hr => ?_)
    ·
     refine rn tk 4 rfl ?_
     refine bs 63 hr rfl (fun c39 hr => ?_) (fun c39 hr => ?_)
     ·
      refine rn tk 2 rfl ?_
      obtain ⟨v40, h41, hr⟩ := bind_some hr
      refine ug rfl rfl rfl ?_
      refine cl (R_NameOk_run _ _ h41) rfl rfl ?_
      refine rn tk 3 rfl ?_
      cases hr
      exact jn _ rfl rfl rfl
     ·
      refine rn tk 6 rfl ?_
      cases hr
      exact jn _ rfl rfl rfl
    ·
     refine ac 68 hr rfl (fun c42 hr => ?_) (fun c42 hr => ?_)
     ·
      refine rn tk 2 rfl ?_
      obtain ⟨v43, h44, hr⟩ := bind_some hr
      refine cl (R_At_run _ _ _ h44) rfl rfl ?_
      refine rn tk 5 rfl ?_
      cases hr
      exact kr tk (.inr rfl) rfl rfl
     ·
      refine rn tk 3 rfl ?_
      refine jb hr (fun j45 => [(1, .ptr 1 0), (2, .ptr 2 0), (3, .i a0.Verb), (86, .bo j45)]) (fun j45 => [(2, .cells [.i 0, .i 0]), (1, .cells [.i a0.Verb, .s a0.Name, .s a0.Address, .i a0.Size, .i a0.Notify, .bo a0.Last])]) (fun j45 hr => ?_) (fun j45 hr => ?_)
      ·
       refine rn tk 4 rfl ?_
       refine bs 72 hr rfl (fun c46 hr => ?_) (fun c46 hr => ?_)
       ·
        refine rn tk 5 rfl ?_
        refine bs 77 hr rfl (fun c47 hr => ?_) (fun c47 hr => ?_)
        ·
         refine rn tk 6 rfl ?_
         obtain ⟨v48, h49, hr⟩ := bind_some hr
         refine ug rfl rfl rfl ?_
         refine cl (R_AddressOk_run _ _ h49) rfl rfl ?_
         refine rn tk 3 rfl ?_
         cases hr
         exact jn _ rfl rfl rfl
        ·
         refine rn tk 4 rfl ?_
         refine bs 81 hr rfl (fun c50 hr => ?_) (fun c50 hr => ?_)
         ·
          refine rn tk 2 rfl ?_
          obtain ⟨v51, h52, hr⟩ := bind_some hr
          refine ug rfl rfl rfl ?_
          refine cl (R_AddressOk_run _ _ h52) rfl rfl ?_
          refine rn tk 3 rfl ?_
          cases hr
          exact jn _ rfl rfl rfl
         ·
          refine rn tk 6 rfl ?_
          cases hr
          exact jn _ rfl rfl rfl
       ·
        refine rn tk 9 rfl ?_
        refine bs 81 hr rfl (fun c53 hr => ?_) (fun c53 hr => ?_)
        ·
         refine rn tk 2 rfl ?_
         obtain ⟨v54, h55, hr⟩ := bind_some hr
         refine ug rfl rfl rfl ?_
         refine cl (R_AddressOk_run _ _ h55) rfl rfl ?_
         refine rn tk 3 rfl ?_
         cases hr
         exact jn _ rfl rfl rfl
        ·
         refine rn tk 6 rfl ?_
         cases hr
         exact jn _ rfl rfl rfl
      ·
       refine ac 86 hr rfl (fun c56 hr => ?_) (fun c56 hr => ?_)
       ·
        refine rn tk 2 rfl ?_
        obtain ⟨v57, h58, hr⟩ := bind_some hr
        refine cl (R_At_run _ _ _ h58) rfl rfl ?_
        refine rn tk 5 rfl ?_
        cases hr
        exact kr tk (.inr rfl) rfl rfl
       ·
        refine rn tk 3 rfl ?_
        refine jb hr (fun j59 => [(1, .ptr 1 0), (2, .ptr 2 0), (3, .i a0.Verb), (99, .bo j59)]) (fun j59 => [(2, .cells [.i 0, .i 0]), (1, .cells [.i a0.Verb, .s a0.Name, .s a0.Address, .i a0.Size, .i a0.Notify, .bo a0.Last])]) (fun j59 hr => ?_) (fun j59 hr => ?_)
        ·
         refine rn tk 4 rfl ?_
         refine bs 90 hr rfl (fun c60 hr => ?_) (fun c60 hr => ?_)
         ·
          refine rn tk 6 rfl ?_
          obtain ⟨v61, h62, hr⟩ := bind_some hr
          refine ug rfl rfl rfl ?_
          refine cl (R_In_run _ _ _ _ h62) rfl rfl ?_
          refine rn tk 3 rfl ?_
          cases hr
          exact jn _ rfl rfl rfl
         ·
          refine rn tk 4 rfl ?_
          refine bs 94 hr rfl (fun c63 hr => ?_) (fun c63 hr => ?_)
          ·
           refine rn tk 2 rfl ?_
           obtain ⟨v64, h65, hr⟩ := bind_some hr
           refine ug rfl rfl rfl ?_
           refine cl (R_In_run _ _ _ _ h65) rfl rfl ?_
           refine rn tk 3 rfl ?_
           cases hr
           exact jn _ rfl rfl rfl
          ·
           refine rn tk 6 rfl ?_
           cases hr
           exact jn _ rfl rfl rfl
        ·
         refine ac 99 hr rfl (fun c66 hr => ?_) (fun c66 hr => ?_)
         ·
          refine rn tk 2 rfl ?_
          obtain ⟨v67, h68, hr⟩ := bind_some hr
          refine cl (R_At_run _ _ _ h68) rfl rfl ?_
          refine rn tk 5 rfl ?_
          cases hr
          exact kr tk (.inr rfl) rfl rfl
         ·
          refine rn tk 3 rfl ?_
          refine jb hr (fun j69 => [(2, .ptr 2 0), (108, .bo j69)]) (fun j69 => [(2, .cells [.i 0, .i 0])]) (fun j69 hr => ?_) (fun j69 hr => ?_)
          ·
           refine rn tk 4 rfl ?_
           refine bs 103 hr rfl (fun c70 hr => ?_) (fun c70 hr => ?_)
           ·
            refine rn tk 2 rfl ?_
            obtain ⟨v71, h72, hr⟩ := bind_some hr
            refine ug rfl rfl rfl ?_
            refine cl (R_In_run _ _ _ _ h72) rfl rfl ?_
            refine rn tk 3 rfl ?_
            cases hr
            exact jn _ rfl rfl rfl
           ·
            refine rn tk 6 rfl ?_
            cases hr
            exact jn _ rfl rfl rfl
          ·
           refine ac 108 hr rfl (fun c73 hr => ?_) (fun c73 hr => ?_)
           ·
            refine rn tk 2 rfl ?_
            obtain ⟨v74, h75, hr⟩ := bind_some hr
            refine cl (R_At_run _ _ _ h75) rfl rfl ?_
            refine rn tk 5 rfl ?_
            cases hr
            exact kr tk (.inr rfl) rfl rfl
           ·
            refine rn tk 9 rfl ?_
            cases hr
            exact kr tk (.inr rfl) rfl rfl
theorem R_Conditions_run (a0 : Int) (r : Str) (hr : R_Conditions a0 = some r) : Run Tryz.prog 23 [.i a0] (.s r) := by
 unfold R_Conditions at hr
 refine rf (fn := Tryz.f23) ⟨Tryz.func23, rfl, by kernel_rfl⟩ rfl (fun _ => rfl) fun g0 hg => ?_
 refine rn tk 7 rfl ?_
 refine wz cS ([([110, 101, 118, 101, 114] : Str), ([102, 97, 105, 108, 117, 114, 101] : Str), ([100, 101, 108, 97, 121] : Str), ([102, 97, 105, 108, 117, 114, 101, 44, 100, 101, 108, 97, 121] : Str), ([115, 117, 99, 99, 101, 115, 115] : Str), ([102, 97, 105, 108, 117, 114, 101, 44, 115, 117, 99, 99, 101, 115, 115] : Str), ([100, 101, 108, 97, 121, 44, 115, 117, 99, 99, 101, 115, 115] : Str), ([102, 97, 105, 108, 117, 114, 101, 44, 100, 101, 108, 97, 121, 44, 115, 117, 99, 99, 101, 115, 115] : Str)] : List Str) tk rfl rfl (fun _ => rfl) rfl (by kernel_rfl) rfl ?_
 refine rn tk 7 rfl ?_
 obtain ⟨v1, h2, hr⟩ := bind_some hr
 refine wi tk h2 rfl rfl rfl rfl rfl ?_
 refine rn tk 5 rfl ?_
 cases hr
 exact kr tk (.inr rfl) rfl rfl
theorem R_Small_run (a0 : Str) (r : Str) (hr : R_Small a0 = some r) : Run Tryz.prog 34 [.s a0] (.s r) := by
 unfold R_Small at hr
 refine rf (fn := Tryz.f34) ⟨Tryz.func34, rfl, by kernel_rfl⟩ rfl (fun _ => rfl) fun g0 hg => ?_
 refine rn tk 8 rfl ?_
 refine awpl_adopt 1003 (d := 3) 5 1 rfl rfl rfl (hO ?_)
 refine rn tk 9 rfl ?_
 refine al1 hr (fun s1 => [(0, .s a0), (3, .hs 1003 0), (4, .i s1.1)]) (fun s1 => [(1003, .row 5 false 1 (List.map cU s1.2))]) (.exit 0) (fun b2 => [(3, .hs 1003 0)]) (fun b2 => [(1003, .row 5 false 1 (List.map cU b2))]) rfl rfl (fun s1 x3 hr => ?_) (fun b2 hr => ?_)
 ·
  unfold R_Small_l1 at hr
  refine rn tk 9 rfl ?_
  refine ac 9 hr rfl (fun c4 hr => ?_) (fun c4 hr => ?_)
  ·
   refine rn tk 8 rfl ?_
   obtain ⟨v5, h6, hr⟩ := bind_some hr
   refine ws tk h6 rfl rfl rfl rfl ?_
   refine rn tk 3 rfl ?_
   refine jb hr (fun j7 => [(0, .s a0), (3, .hs 1003 0), (4, .i s1.1), (5, .u8 j7)]) (fun j7 => [(1003, .row 5 false 1 (List.map cU s1.2))]) (fun j7 hr => ?_) (fun j7 hr => ?_)
   ·
    refine rn tk 3 rfl ?_
    refine wu tk rfl rfl rfl ?_
    obtain ⟨v8, h9, hr⟩ := bind_some hr
    refine cl (R_In_run _ _ _ _ h9) rfl rfl ?_
    refine rn tk 2 rfl ?_
    refine ac 17 hr rfl (fun c10 hr => ?_) (fun c10 hr => ?_)
    ·
     refine rn tk 2 rfl ?_
     refine wq (ev_u8add (a := v5) (b := (32 : UInt8)) rfl rfl) rfl rfl rfl ?_
     refine rn tk 2 rfl ?_
     cases hr
     exact jn _ rfl rfl rfl
    ·
     refine rn tk 1 rfl ?_
     cases hr
     exact jn _ rfl rfl rfl
   ·
    refine rn tk 3 rfl ?_
    refine wz cU ([j7] : List UInt8) tk rfl rfl (fun _ => rfl) rfl rfl rfl ?_
    obtain ⟨v11, h12, hr⟩ := bind_some hr
    refine wa tk h12 rfl rfl rfl rfl (fun _ => rfl) rfl rfl ?_
    refine rn tk 9 rfl ?_
    cases hr
    exact atc rfl rfl
  ·
   refine rn tk 2 rfl ?_
   cases hr
   exact ato rfl rfl rfl rfl
 ·
  refine rn tk 5 rfl ?_
  refine awpl_pub (d := 24) (F := cU) (l := b2) rfl rfl (hO ?_)
  refine wb tk rfl rfl rfl ?_
  refine rn tk 4 rfl ?_
  cases hr
  exact kr tk (.inr rfl) rfl rfl
theorem R_Words_run (a0 : Str) (r : List Str) (hr : R_Words a0 = some r) : Run Tryz.prog 33 [.s a0] (.l cS r) := by
 unfold R_Words at hr
 refine rf (fn := Tryz.f33) ⟨Tryz.func33, rfl, by kernel_rfl⟩ rfl (fun _ => rfl) fun g0 hg => ?_
 refine rn tk 8 rfl ?_
 refine awpl_adopt 1003 (d := 3) 9 1 rfl rfl rfl (hO ?_)
 refine rn tk 14 rfl ?_
 refine al1 hr (fun s1 => [(0, .s a0), (3, .hs 1003 0), (4, .s s1.1), (5, .i s1.2.1)]) (fun s1 => [(1003, .row 9 false 1 (List.map cS s1.2.2))]) (.exit 0) (fun b2 => [(3, .hs 1003 0)]) (fun b2 => [(1003, .row 9 false 1 (List.map cS b2))]) rfl rfl (fun s1 x3 hr => ?_) (fun b2 hr => ?_)
 ·
  unfold R_Words_l1 at hr
  refine rn tk 9 rfl ?_
  refine ac 9 hr rfl (fun c4 hr => ?_) (fun c4 hr => ?_)
  ·
   refine rn tk 2 rfl ?_
   refine jb hr (fun j5 => [(0, .s a0), (3, .hs 1003 0), (4, .s j5.1), (5, .i s1.2.1)]) (fun j5 => [(1003, .row 9 false 1 (List.map cS j5.2))]) (fun j5 hr => ?_) (fun j5 hr => ?_)
   ·
    refine rn tk 2 rfl ?_
    refine jb hr (fun j6 => [(0, .s a0), (3, .hs 1003 0), (4, .s s1.1), (5, .i s1.2.1), (21, .bo j6)]) (fun j6 => [(1003, .row 9 false 1 (List.map cS s1.2.2))]) (fun j6 hr => ?_) (fun j6 hr => ?_)
    ·
     refine rn tk 6 rfl ?_
     refine bs 16 hr rfl (fun c7 hr => ?_) (fun c7 hr => ?_)
     ·
      refine rn tk 2 rfl ?_
      obtain ⟨v8, h9, hr⟩ := bind_some hr
      refine ug rfl rfl rfl ?_
      refine ws tk h9 rfl rfl rfl rfl ?_
      refine rn tk 3 rfl ?_
      cases hr
      exact jn _ rfl rfl rfl
     ·
      refine rn tk 6 rfl ?_
      cases hr
      exact jn _ rfl rfl rfl
    ·
     refine ac 21 hr rfl (fun c10 hr => ?_) (fun c10 hr => ?_)
     ·
      refine rn tk 7 rfl ?_
      obtain ⟨v11, h12, hr⟩ := bind_some hr
      refine wscLH tk h12 rfl rfl rfl rfl rfl ?_
      obtain ⟨v13, h14, hr⟩ := bind_some hr
      refine wc h14 rfl rfl rfl ?_
      refine rn tk 6 rfl ?_
      cases hr
      exact jn _ rfl rfl rfl
     ·
      refine rn tk 2 rfl ?_
      refine jb hr (fun j15 => [(0, .s a0), (3, .hs 1003 0), (5, .i s1.2.1)]) (fun j15 => [(1003, .row 9 false 1 (List.map cS j15))]) (fun j15 hr => ?_) (fun j15 hr => ?_)
      ·
       refine rn tk 6 rfl ?_
       refine ac 30 hr rfl (fun c16 hr => ?_) (fun c16 hr => ?_)
       ·
        refine rn tk 3 rfl ?_
        refine wz cS ([s1.1] : List Str) tk rfl rfl (fun _ => rfl) rfl rfl rfl ?_
        obtain ⟨v17, h18, hr⟩ := bind_some hr
        refine wa tk h18 rfl rfl rfl rfl (fun _ => rfl) rfl rfl ?_
        refine rn tk 2 rfl ?_
        cases hr
        exact jn _ rfl rfl rfl
       ·
        refine rn tk 1 rfl ?_
        cases hr
        exact jn _ rfl rfl rfl
      ·
       refine rn tk 4 rfl ?_
       cases hr
       exact jn _ rfl rfl rfl
   ·
    refine rn tk 5 rfl ?_
    cases hr
    exact atc rfl rfl
  ·
   refine rn tk 2 rfl ?_
   cases hr
   exact ato rfl rfl rfl rfl
 ·
  refine rn tk 8 rfl ?_
  refine awp_pub (d := 2) (F := cS) (l := b2) rfl rfl (hC ?_)
  refine rn tk 1 rfl ?_
  cases hr
  exact kr tk (.inr rfl) rfl rfl
theorem R_after_run (a0 : Str) (a1 : Str) (r : Str × Bool) (hr : R_after a0 a1 = some r) : Run Tryz.prog 36 [.s a0, .s a1] (.tup [.s r.1, .bo r.2]) := by
 unfold R_after at hr
 refine rf (fn := Tryz.f36) ⟨Tryz.func36, rfl, by kernel_rfl⟩ rfl (fun _ => rfl) fun g0 hg => ?_
 refine rn tk 9 rfl ?_
 obtain ⟨v1, h2, hr⟩ := bind_some hr
 refine cl (R_Small_run _ _ h2) rfl rfl ?_
 refine rn tk 4 rfl ?_
 refine jb hr (fun j3 => [(1, .s a1), (6, .s v1), (21, .bo j3)]) (fun j3 => []) (fun j3 hr => ?_) (fun j3 hr => ?_)
 ·
  refine rn tk 7 rfl ?_
  refine bs 14 hr rfl (fun c4 hr => ?_) (fun c4 hr => ?_)
  ·
   refine rn tk 8 rfl ?_
   cases hr
   exact jn _ rfl rfl rfl
  ·
   refine rn tk 3 rfl ?_
   obtain ⟨v5, h6, hr⟩ := bind_some hr
   refine ug rfl rfl rfl ?_
   refine wscH tk h6 rfl rfl rfl rfl ?_
   refine rn tk 4 rfl ?_
   cases hr
   exact jn _ rfl rfl rfl
 ·
  refine ac 21 hr rfl (fun c7 hr => ?_) (fun c7 hr => ?_)
  ·
   refine rn tk 8 rfl ?_
   cases hr
   exact kr tk (.inr rfl) rfl rfl
  ·
   refine rn tk 7 rfl ?_
   obtain ⟨v8, h9, hr⟩ := bind_some hr
   refine wscL tk h9 rfl rfl rfl rfl ?_
   refine rn tk 5 rfl ?_
   cases hr
   exact kr tk (.inr rfl) rfl rfl
theorem R_verb_run (a0 : Int) (r : Str) (hr : R_verb a0 = some r) : Run Tryz.prog 21 [.i a0] (.s r) := by
 unfold R_verb at hr
 refine rf (fn := Tryz.f21) ⟨Tryz.func21, rfl, by kernel_rfl⟩ rfl (fun _ => rfl) fun g0 hg => ?_
 refine rn tk 7 rfl ?_
 refine wz cS ([([104, 101, 108, 108, 111] : Str), ([109, 97, 105, 108] : Str), ([114, 99, 112, 116] : Str), ([100, 97, 116, 97] : Str), ([99, 104, 117, 110, 107] : Str), ([114, 101, 115, 101, 116] : Str), ([110, 111, 111, 112] : Str), ([113, 117, 105, 116] : Str)] : List Str) tk rfl rfl (fun _ => rfl) rfl (by kernel_rfl) rfl ?_
 refine rn tk 8 rfl ?_
 obtain ⟨v1, h2, hr⟩ := bind_some hr
 refine wi tk h2 rfl rfl rfl rfl rfl ?_
 refine rn tk 5 rfl ?_
 cases hr
 exact kr tk (.inr rfl) rfl rfl
theorem R_CommandOf_run (a0 : Str) (r : TCommand × TFault) (hr : R_CommandOf a0 = some r) : Run Tryz.prog 11 [.s a0] (.tup [.agg [.i r.1.Verb, .s r.1.Name, .s r.1.Address, .i r.1.Size, .i r.1.Notify, .bo r.1.Last], .agg [.i r.2.Code, .i r.2.Index]]) := by
 unfold R_CommandOf at hr
 refine rf (fn := Tryz.f11) ⟨Tryz.func11, rfl, by kernel_rfl⟩ rfl (fun _ => rfl) fun g0 hg => ?_
 refine rn tk 21 rfl ?_
 refine ac 22 hr rfl (fun c1 hr => ?_) (fun c1 hr => ?_)
 ·
  refine rn tk 1 rfl ?_
  obtain ⟨v2, h3, hr⟩ := bind_some hr
  refine dr 2 [(24, .agg [.i v2.Code, .i v2.Index]), (23, .agg [.i 0, .s (([] : Str)), .s (([] : Str)), .i 0, .i 0, .bo false])] mixed (by kernel_rfl) rfl rfl (pq tk rfl (.plain rfl) (.run (.plain rfl) (opG_call (R_At_run 1 ((-1)) v2 h3) rfl) .nil)) rfl ?_
  refine rn tk 6 rfl ?_
  cases hr
  exact kr tk (.inr rfl) rfl rfl
 ·
  refine rn tk 5 rfl ?_
  obtain ⟨v4, h5, hr⟩ := bind_some hr
  refine cl (R_Words_run _ _ h5) rfl rfl ?_
  refine rn tk 17 rfl ?_
  refine al1 hr (fun s6 => [(2, .ptr 2 0), (3, .ptr 3 0), (4, .ptr 4 0), (5, .l cS v4), (6, .ptr 6 0), (7, .i s6.1)]) (fun s6 => [(6, .cells [.i s6.2, .s (([] : Str)), .s (([] : Str)), .i 0, .i 0, .bo false]), (4, .cells [.i 0, .s (([] : Str)), .s (([] : Str)), .i 0, .i 0, .bo false]), (3, .cells [.i 0, .i 0]), (2, .cells [.i 0, .s (([] : Str)), .s (([] : Str)), .i 0, .i 0, .bo false])]) (.exit 0) (fun b7 => [(2, .ptr 2 0), (3, .ptr 3 0), (4, .ptr 4 0), (5, .l cS v4), (6, .ptr 6 0)]) (fun b7 => [(6, .cells [.i b7, .s (([] : Str)), .s (([] : Str)), .i 0, .i 0, .bo false]), (4, .cells [.i 0, .s (([] : Str)), .s (([] : Str)), .i 0, .i 0, .bo false]), (3, .cells [.i 0, .i 0]), (2, .cells [.i 0, .s (([] : Str)), .s (([] : Str)), .i 0, .i 0, .bo false])]) rfl rfl (fun s6 x8 hr => ?_) (fun b7 hr => ?_)
  ·
   unfold R_CommandOf_l1 at hr
   refine rn tk 1 rfl ?_
   refine jb hr (fun j9 => [(2, .ptr 2 0), (3, .ptr 3 0), (4, .ptr 4 0), (5, .l cS v4), (6, .ptr 6 0), (7, .i s6.1), (34, .bo j9)]) (fun j9 => [(6, .cells [.i s6.2, .s (([] : Str)), .s (([] : Str)), .i 0, .i 0, .bo false]), (4, .cells [.i 0, .s (([] : Str)), .s (([] : Str)), .i 0, .i 0, .bo false]), (3, .cells [.i 0, .i 0]), (2, .cells [.i 0, .s (([] : Str)), .s (([] : Str)), .i 0, .i 0, .bo false])]) (fun j9 hr => ?_) (fun j9 hr => ?_)
   ·
    refine rn tk 4 rfl ?_
    refine bs 30 hr rfl (fun c10 hr => ?_) (fun c10 hr => ?_)
    ·
     refine rn tk 1 rfl ?_
     refine ug rfl rfl rfl ?_
     refine wn tk rfl rfl rfl ?_
     refine rn tk 3 rfl ?_
     cases hr
     exact jn _ rfl rfl rfl
    ·
     refine rn tk 5 rfl ?_
     cases hr
     exact jn _ rfl rfl rfl
   ·
    refine ac 34 hr rfl (fun c11 hr => ?_) (fun c11 hr => ?_)
    ·
     refine rn tk 2 rfl ?_
     refine jb hr (fun j12 => [(2, .ptr 2 0), (3, .ptr 3 0), (4, .ptr 4 0), (5, .l cS v4), (6, .ptr 6 0), (7, .i s6.1)]) (fun j12 => [(6, .cells [.i j12, .s (([] : Str)), .s (([] : Str)), .i 0, .i 0, .bo false]), (4, .cells [.i 0, .s (([] : Str)), .s (([] : Str)), .i 0, .i 0, .bo false]), (3, .cells [.i 0, .i 0]), (2, .cells [.i 0, .s (([] : Str)), .s (([] : Str)), .i 0, .i 0, .bo false])]) (fun j12 hr => ?_) (fun j12 hr => ?_)
     ·
      refine rn tk 4 rfl ?_
      obtain ⟨v13, h14, hr⟩ := bind_some hr
      refine wi tk h14 rfl rfl rfl rfl rfl ?_
      refine rn tk 1 rfl ?_
      obtain ⟨v15, h16, hr⟩ := bind_some hr
      refine cl (R_Small_run _ _ h16) rfl rfl ?_
      refine rn tk 1 rfl ?_
      obtain ⟨v17, h18, hr⟩ := bind_some hr
      refine cl (R_verb_run _ _ h18) rfl rfl ?_
      refine rn tk 3 rfl ?_
      refine ac 43 hr rfl (fun c19 hr => ?_) (fun c19 hr => ?_)
      ·
       refine rn tk 6 rfl ?_
       cases hr
       exact jn _ rfl rfl rfl
      ·
       refine rn tk 2 rfl ?_
       cases hr
       exact jn _ rfl rfl rfl
     ·
      refine rn tk 5 rfl ?_
      cases hr
      exact atc rfl rfl
    ·
     refine rn tk 2 rfl ?_
     cases hr
     exact ato rfl rfl rfl rfl
  ·
   refine rn tk 10 rfl ?_
   refine ac 48 hr rfl (fun c20 hr => ?_) (fun c20 hr => ?_)
   ·
    refine rn tk 1 rfl ?_
    obtain ⟨v21, h22, hr⟩ := bind_some hr
    refine dr 2 [(50, .agg [.i v21.Code, .i v21.Index]), (49, .agg [.i 0, .s (([] : Str)), .s (([] : Str)), .i 0, .i 0, .bo false])] mixed (by kernel_rfl) rfl rfl (pq tk rfl (.plain rfl) (.run (.plain rfl) (opG_call (R_At_run 18 ((-2)) v21 h22) rfl) .nil)) rfl ?_
    refine rn tk 6 rfl ?_
    cases hr
    exact kr tk (.inr rfl) rfl rfl
   ·
    refine rn tk 4 rfl ?_
    obtain ⟨v23, h24, hr⟩ := bind_some hr
    refine cl (R_At_run _ _ _ h24) rfl rfl ?_
    refine rn tk 7 rfl ?_
    obtain ⟨v25, h26, hr⟩ := bind_some hr
    refine wlL tk h26 rfl rfl rfl (fun _ => rfl) rfl ?_
    refine rn tk 5 rfl ?_
    refine wz cI ([1, 1, 1, 0, 1, 0, 0, 0] : List Int) tk rfl rfl (fun _ => rfl) rfl rfl rfl ?_
    refine rn tk 5 rfl ?_
    refine wz cI ([1, 2, 2, 0, 2, 0, 0, 0] : List Int) tk rfl rfl (fun _ => rfl) rfl rfl rfl ?_
    refine rn tk 5 rfl ?_
    obtain ⟨v27, h28, hr⟩ := bind_some hr
    obtain ⟨v29, h30, hr⟩ := bind_some hr
    refine dr 14 [(69, .i v29), (68, .ep [pI v29]), (67, .i ((w64 (b7 - 1)))), (66, .i b7), (65, .ptr 6 0), (64, .l cI (([1, 2, 2, 0, 2, 0, 0, 0] : List Int))), (63, .i v27), (62, .ep [pI v27]), (61, .i ((w64 (b7 - 1)))), (60, .i b7), (59, .ptr 6 0), (58, .l cI (([1, 1, 1, 0, 1, 0, 0, 0] : List Int))), (57, .i ((v25.length : Int))), (56, .l cS v25)] mixed (by kernel_rfl) rfl rfl (pq tk rfl (.plain rfl) (.run (.plain rfl) (opG_q (ev_llen (f := cS) rfl ty_s_string.u)) (pq tk rfl (.plain rfl) (pq tk rfl (.plain rfl) (pq tk rfl (.plain rfl) (pq tk rfl (.plain rfl) (.run (.plain rfl) (opG_q (ev_idx (f := cI) rfl rfl ty_s_int ty_int rfl h28)) (pq tk rfl (.plain rfl) (pq tk rfl (.plain rfl) (pq tk rfl (.plain rfl) (pq tk rfl (.plain rfl) (pq tk rfl (.plain rfl) (.run (.plain rfl) (opG_q (ev_idx (f := cI) rfl rfl ty_s_int ty_int rfl h30)) (pq tk rfl (.plain rfl) .nil)))))))))))))) rfl ?_
    obtain ⟨v31, h32, hr⟩ := bind_some hr
    refine cl (R_In_run _ _ _ _ h32) rfl rfl ?_
    refine rn tk 3 rfl ?_
    refine ac 71 hr rfl (fun c33 hr => ?_) (fun c33 hr => ?_)
    ·
     refine rn tk 1 rfl ?_
     refine drX 2 3 3 3 [1] [(73, .agg [.i v23.Code, .i v23.Index]), (72, .agg [.i 0, .s (([] : Str)), .s (([] : Str)), .i 0, .i 0, .bo false])] [(2, .ptr 2 0), (3, .ptr 3 0), (73, .agg [.i v23.Code, .i v23.Index])] [(8, .cells [.i v23.Code, .i v23.Index]), (6, .cells [.i b7, .s (([] : Str)), .s (([] : Str)), .i 0, .i 0, .bo false]), (4, .cells [.i 0, .s (([] : Str)), .s (([] : Str)), .i 0, .i 0, .bo false]), (3, .cells [.i 0, .i 0]), (2, .cells [.i 0, .s (([] : Str)), .s (([] : Str)), .i 0, .i 0, .bo false])] tk mixed (by kernel_rfl) rfl rfl rfl (pqX tk rfl (.plain rfl) (pqX tk rfl (.plain rfl) .nil)) rfl rfl rfl rfl (by kernel_rfl) ?_
     refine rn tk 5 rfl ?_
     cases hr
     exact kr tk (.inr rfl) rfl rfl
    ·
     refine rn tk 2 rfl ?_
     refine jk (fun j34 => [(2, .ptr 2 0), (3, .ptr 3 0), (4, .ptr 4 0), (5, .l cS v25), (6, .ptr 6 0), (8, .ptr 8 0)]) (fun j34 => [(8, .cells [.i v23.Code, .i v23.Index]), (6, .cells [.i b7, .s j34.1, .s j34.2.1, .i j34.2.2, .i 0, .bo false]), (4, .cells [.i 0, .s (([] : Str)), .s (([] : Str)), .i 0, .i 0, .bo false]), (3, .cells [.i 0, .i 0]), (2, .cells [.i 0, .s (([] : Str)), .s (([] : Str)), .i 0, .i 0, .bo false])]) (fun j34 => R_CommandOf_k2 b7 v23 v25 j34 = some r) ?_ ?_
     ·
      refine rn tk 13 rfl ?_
      refine ac 76 hr rfl (fun c72 hr => ?_) (fun c72 hr => ?_)
      ·
       refine rn tk 2 rfl ?_
       obtain ⟨v73, h74, hr⟩ := bind_some hr
       refine wi tk h74 rfl rfl rfl rfl rfl ?_
       refine rn tk 5 rfl ?_
       exact jn ((v73, ([] : Str), 0)) hr rfl rfl
      ·
       refine jb hr (fun j75 => [(2, .ptr 2 0), (3, .ptr 3 0), (4, .ptr 4 0), (5, .l cS v25), (6, .ptr 6 0), (8, .ptr 8 0), (75, .i b7), (82, .bo j75)]) (fun j75 => [(8, .cells [.i v23.Code, .i v23.Index]), (6, .cells [.i b7, .s (([] : Str)), .s (([] : Str)), .i 0, .i 0, .bo false]), (4, .cells [.i 0, .s (([] : Str)), .s (([] : Str)), .i 0, .i 0, .bo false]), (3, .cells [.i 0, .i 0]), (2, .cells [.i 0, .s (([] : Str)), .s (([] : Str)), .i 0, .i 0, .bo false])]) (fun j75 hr => ?_) (fun j75 hr => ?_)
       ·
        refine rn tk 6 rfl ?_
        refine ac 82 hr rfl (fun c76 hr => ?_) (fun c76 hr => ?_)
        ·
         refine rn tk 1 rfl ?_
         cases hr
         exact jn _ rfl rfl rfl
        ·
         refine rn tk 4 rfl ?_
         cases hr
         exact jn _ rfl rfl rfl
       ·
        refine ac 82 hr rfl (fun c77 hr => ?_) (fun c77 hr => ?_)
        ·
         refine rn tk 3 rfl ?_
         obtain ⟨v78, h79, hr⟩ := bind_some hr
         refine wi tk h79 rfl rfl rfl rfl rfl ?_
         refine rn tk 6 rfl ?_
         refine jb hr (fun j80 => [(2, .ptr 2 0), (3, .ptr 3 0), (4, .ptr 4 0), (5, .l cS v25), (6, .ptr 6 0), (8, .ptr 8 0), (11, .i ((v78.length : Int))), (106, .bo j80)]) (fun j80 => [(8, .cells [.i v23.Code, .i v23.Index]), (6, .cells [.i b7, .s (([] : Str)), .s (([] : Str)), .i 0, .i 0, .bo false]), (4, .cells [.i 0, .s (([] : Str)), .s (([] : Str)), .i 0, .i 0, .bo false]), (3, .cells [.i 0, .i 0]), (2, .cells [.i 0, .s (([] : Str)), .s (([] : Str)), .i 0, .i 0, .bo false])]) (fun j80 hr => ?_) (fun j80 hr => ?_)
         ·
          refine rn tk 4 rfl ?_
          refine bs 91 hr rfl (fun c81 hr => ?_) (fun c81 hr => ?_)
          ·
           refine rn tk 16 rfl ?_
           cases hr
           exact jn _ rfl rfl rfl
          ·
           refine rn tk 1 rfl ?_
           obtain ⟨v82, h83, hr⟩ := bind_some hr
           refine ug rfl rfl rfl ?_
           refine wi tk h83 rfl rfl rfl rfl rfl ?_
           refine rn tk 1 rfl ?_
           obtain ⟨v84, h85, hr⟩ := bind_some hr
           refine ug rfl rfl rfl ?_
           refine ws tk h85 rfl rfl rfl rfl ?_
           refine rn tk 3 rfl ?_
           refine bs 98 hr rfl (fun c86 hr => ?_) (fun c86 hr => ?_)
           ·
            refine rn tk 9 rfl ?_
            cases hr
            exact jn _ rfl rfl rfl
           ·
            refine rn tk 1 rfl ?_
            obtain ⟨v87, h88, hr⟩ := bind_some hr
            refine ug rfl rfl rfl ?_
            refine wi tk h88 rfl rfl rfl rfl rfl ?_
            refine rn tk 3 rfl ?_
            obtain ⟨v89, h90, hr⟩ := bind_some hr
            refine ug rfl rfl rfl ?_
            refine ws tk h90 rfl rfl rfl rfl ?_
            refine rn tk 3 rfl ?_
            cases hr
            exact jn _ rfl rfl rfl
         ·
          refine ac 106 hr rfl (fun c91 hr => ?_) (fun c91 hr => ?_)
          ·
           refine rn tk 1 rfl ?_
           refine drX 2 3 3 3 [1] [(108, .agg [.i v23.Code, .i v23.Index]), (107, .agg [.i 0, .s (([] : Str)), .s (([] : Str)), .i 0, .i 0, .bo false])] [(2, .ptr 2 0), (3, .ptr 3 0), (108, .agg [.i v23.Code, .i v23.Index])] [(8, .cells [.i v23.Code, .i v23.Index]), (6, .cells [.i b7, .s (([] : Str)), .s (([] : Str)), .i 0, .i 0, .bo false]), (4, .cells [.i 0, .s (([] : Str)), .s (([] : Str)), .i 0, .i 0, .bo false]), (3, .cells [.i 0, .i 0]), (2, .cells [.i 0, .s (([] : Str)), .s (([] : Str)), .i 0, .i 0, .bo false])] tk mixed (by kernel_rfl) rfl rfl rfl (pqX tk rfl (.plain rfl) (pqX tk rfl (.plain rfl) .nil)) rfl rfl rfl rfl (by kernel_rfl) ?_
           refine rn tk 7 rfl ?_
           cases hr
           exact kr tk (.inr rfl) rfl rfl
          ·
           refine rn tk 4 rfl ?_
           obtain ⟨v92, h93, hr⟩ := bind_some hr
           refine wi tk h93 rfl rfl rfl rfl rfl ?_
           refine rn tk 3 rfl ?_
           obtain ⟨v94, h95, hr⟩ := bind_some hr
           refine wscLH tk h95 rfl rfl rfl rfl rfl ?_
           refine rn tk 4 rfl ?_
           exact jn ((([] : Str), v94, 0)) hr rfl rfl
        ·
         refine rn tk 6 rfl ?_
         refine ac 116 hr rfl (fun c96 hr => ?_) (fun c96 hr => ?_)
         ·
          refine rn tk 3 rfl ?_
          obtain ⟨v97, h98, hr⟩ := bind_some hr
          refine wi tk h98 rfl rfl rfl rfl rfl ?_
          refine rn tk 1 rfl ?_
          obtain ⟨v99, h100, hr⟩ := bind_some hr
          refine cl (R_Amount_run _ _ h100) rfl rfl ?_
          refine rn tk 11 rfl ?_
          refine ac 125 hr rfl (fun c101 hr => ?_) (fun c101 hr => ?_)
          ·
           refine rn tk 1 rfl ?_
           refine drX 2 3 3 3 [1] [(127, .agg [.i v23.Code, .i v23.Index]), (126, .agg [.i 0, .s (([] : Str)), .s (([] : Str)), .i 0, .i 0, .bo false])] [(2, .ptr 2 0), (3, .ptr 3 0), (127, .agg [.i v23.Code, .i v23.Index])] [(8, .cells [.i v23.Code, .i v23.Index]), (6, .cells [.i b7, .s (([] : Str)), .s (([] : Str)), .i v99, .i 0, .bo false]), (4, .cells [.i 0, .s (([] : Str)), .s (([] : Str)), .i 0, .i 0, .bo false]), (3, .cells [.i 0, .i 0]), (2, .cells [.i 0, .s (([] : Str)), .s (([] : Str)), .i 0, .i 0, .bo false])] tk mixed (by kernel_rfl) rfl rfl rfl (pqX tk rfl (.plain rfl) (pqX tk rfl (.plain rfl) .nil)) rfl rfl rfl rfl (by kernel_rfl) ?_
           refine rn tk 6 rfl ?_
           cases hr
           exact kr tk (.inr rfl) rfl rfl
          ·
           refine rn tk 2 rfl ?_
           exact jn ((([] : Str), ([] : Str), v99)) hr rfl rfl
         ·
          refine rn tk 2 rfl ?_
          exact jn ((([] : Str), ([] : Str), 0)) hr rfl rfl
     ·
      intro j34 hr
      unfold R_CommandOf_k2 at hr
      refine jb hr (fun j35 => [(2, .ptr 2 0), (3, .ptr 3 0), (4, .ptr 4 0), (5, .l cS v25), (6, .ptr 6 0), (8, .ptr 8 0)]) (fun j35 => [(8, .cells [.i v23.Code, .i v23.Index]), (6, .cells [.i b7, .s j34.1, .s j34.2.1, .i j34.2.2, .i j35, .bo false]), (4, .cells [.i 0, .s (([] : Str)), .s (([] : Str)), .i 0, .i 0, .bo false]), (3, .cells [.i 0, .i 0]), (2, .cells [.i 0, .s (([] : Str)), .s (([] : Str)), .i 0, .i 0, .bo false])]) (fun j35 hr => ?_) (fun j35 hr => ?_)
      ·
       refine rn tk 7 rfl ?_
       refine ac 130 hr rfl (fun c36 hr => ?_) (fun c36 hr => ?_)
       ·
        refine rn tk 4 rfl ?_
        cases hr
        exact jn _ rfl rfl rfl
       ·
        refine rn tk 1 rfl ?_
        cases hr
        exact jn _ rfl rfl rfl
      ·
       refine jk (fun j37 => [(2, .ptr 2 0), (3, .ptr 3 0), (4, .ptr 4 0), (6, .ptr 6 0)]) (fun j37 => [(6, .cells [.i b7, .s j34.1, .s j34.2.1, .i j37.1, .i j37.2.1, .bo j37.2.2]), (4, .cells [.i 0, .s (([] : Str)), .s (([] : Str)), .i 0, .i 0, .bo false]), (3, .cells [.i 0, .i 0]), (2, .cells [.i 0, .s (([] : Str)), .s (([] : Str)), .i 0, .i 0, .bo false])]) (fun j37 => R_CommandOf_k3 b7 j34 j37 = some r) ?_ ?_
       ·
        refine rn tk 3 rfl ?_
        refine wn tk rfl rfl rfl ?_
        refine rn tk 3 rfl ?_
        refine ac 134 hr rfl (fun c41 hr => ?_) (fun c41 hr => ?_)
        ·
         refine rn tk 5 rfl ?_
         refine jb hr (fun j42 => [(2, .ptr 2 0), (3, .ptr 3 0), (4, .ptr 4 0), (6, .ptr 6 0), (8, .ptr 8 0), (12, .bo j42.1)]) (fun j42 => [(8, .cells [.i v23.Code, .i v23.Index]), (6, .cells [.i b7, .s j34.1, .s j34.2.1, .i j42.2.1, .i j42.2.2.1, .bo j42.2.2.2]), (4, .cells [.i 0, .s (([] : Str)), .s (([] : Str)), .i 0, .i 0, .bo false]), (3, .cells [.i 0, .i 0]), (2, .cells [.i 0, .s (([] : Str)), .s (([] : Str)), .i 0, .i 0, .bo false])]) (fun j42 hr => ?_) (fun j42 hr => ?_)
         ·
          refine rn tk 13 rfl ?_
          refine ac 137 hr rfl (fun c43 hr => ?_) (fun c43 hr => ?_)
          ·
           refine rn tk 3 rfl ?_
           obtain ⟨v44, h45, hr⟩ := bind_some hr
           refine wi tk h45 rfl rfl rfl rfl rfl ?_
           refine rn tk 1 rfl ?_
           obtain ⟨v46, h47, hr⟩ := bind_some hr
           refine cl (R_after_run _ _ _ h47) rfl rfl ?_
           refine rn tk 10 rfl ?_
           obtain ⟨v48, h49, hr⟩ := bind_some hr
           refine cl (R_Amount_run _ _ h49) rfl rfl ?_
           refine rn tk 7 rfl ?_
           refine bs 150 hr rfl (fun c50 hr => ?_) (fun c50 hr => ?_)
           ·
            refine rn tk 7 rfl ?_
            cases hr
            exact jn _ rfl rfl rfl
           ·
            refine rn tk 7 rfl ?_
            cases hr
            exact jn _ rfl rfl rfl
          ·
           refine rn tk 6 rfl ?_
           refine ac 155 hr rfl (fun c51 hr => ?_) (fun c51 hr => ?_)
           ·
            refine rn tk 3 rfl ?_
            obtain ⟨v52, h53, hr⟩ := bind_some hr
            refine wi tk h53 rfl rfl rfl rfl rfl ?_
            refine rn tk 1 rfl ?_
            obtain ⟨v54, h55, hr⟩ := bind_some hr
            refine cl (R_after_run _ _ _ h55) rfl rfl ?_
            refine rn tk 13 rfl ?_
            refine al1 hr (fun s56 => [(2, .ptr 2 0), (3, .ptr 3 0), (4, .ptr 4 0), (6, .ptr 6 0), (8, .ptr 8 0), (12, .bo s56.1), (15, .s v54.1), (16, .bo v54.2), (17, .i s56.2.1)]) (fun s56 => [(8, .cells [.i v23.Code, .i v23.Index]), (6, .cells [.i b7, .s j34.1, .s j34.2.1, .i j34.2.2, .i s56.2.2, .bo false]), (4, .cells [.i 0, .s (([] : Str)), .s (([] : Str)), .i 0, .i 0, .bo false]), (3, .cells [.i 0, .i 0]), (2, .cells [.i 0, .s (([] : Str)), .s (([] : Str)), .i 0, .i 0, .bo false])]) (.exit 4) (fun b57 => [(2, .ptr 2 0), (3, .ptr 3 0), (4, .ptr 4 0), (6, .ptr 6 0), (8, .ptr 8 0), (12, .bo b57.1)]) (fun b57 => [(8, .cells [.i v23.Code, .i v23.Index]), (6, .cells [.i b7, .s j34.1, .s j34.2.1, .i j34.2.2, .i b57.2, .bo false]), (4, .cells [.i 0, .s (([] : Str)), .s (([] : Str)), .i 0, .i 0, .bo false]), (3, .cells [.i 0, .i 0]), (2, .cells [.i 0, .s (([] : Str)), .s (([] : Str)), .i 0, .i 0, .bo false])]) rfl rfl (fun s56 x58 hr => ?_) (fun b57 hr => ?_)
            ·
             unfold R_CommandOf_l4 at hr
             refine rn tk 1 rfl ?_
             refine jb hr (fun j59 => [(2, .ptr 2 0), (3, .ptr 3 0), (4, .ptr 4 0), (6, .ptr 6 0), (8, .ptr 8 0), (12, .bo s56.1), (15, .s v54.1), (16, .bo v54.2), (17, .i s56.2.1), (168, .bo j59)]) (fun j59 => [(8, .cells [.i v23.Code, .i v23.Index]), (6, .cells [.i b7, .s j34.1, .s j34.2.1, .i j34.2.2, .i s56.2.2, .bo false]), (4, .cells [.i 0, .s (([] : Str)), .s (([] : Str)), .i 0, .i 0, .bo false]), (3, .cells [.i 0, .i 0]), (2, .cells [.i 0, .s (([] : Str)), .s (([] : Str)), .i 0, .i 0, .bo false])]) (fun j59 hr => ?_) (fun j59 hr => ?_)
             ·
              refine rn tk 4 rfl ?_
              refine bs 166 hr rfl (fun c60 hr => ?_) (fun c60 hr => ?_)
              ·
               refine rn tk 3 rfl ?_
               cases hr
               exact jn _ rfl rfl rfl
              ·
               refine rn tk 3 rfl ?_
               cases hr
               exact jn _ rfl rfl rfl
             ·
              refine ac 168 hr rfl (fun c61 hr => ?_) (fun c61 hr => ?_)
              ·
               refine rn tk 2 rfl ?_
               refine jb hr (fun j62 => [(2, .ptr 2 0), (3, .ptr 3 0), (4, .ptr 4 0), (6, .ptr 6 0), (8, .ptr 8 0), (12, .bo j62.1), (15, .s v54.1), (16, .bo v54.2), (17, .i s56.2.1)]) (fun j62 => [(8, .cells [.i v23.Code, .i v23.Index]), (6, .cells [.i b7, .s j34.1, .s j34.2.1, .i j34.2.2, .i j62.2, .bo false]), (4, .cells [.i 0, .s (([] : Str)), .s (([] : Str)), .i 0, .i 0, .bo false]), (3, .cells [.i 0, .i 0]), (2, .cells [.i 0, .s (([] : Str)), .s (([] : Str)), .i 0, .i 0, .bo false])]) (fun j62 hr => ?_) (fun j62 hr => ?_)
               ·
                refine rn tk 4 rfl ?_
                obtain ⟨v63, h64, hr⟩ := bind_some hr
                refine cl (R_Conditions_run _ _ h64) rfl rfl ?_
                refine rn tk 4 rfl ?_
                refine ac 174 hr rfl (fun c65 hr => ?_) (fun c65 hr => ?_)
                ·
                 refine rn tk 11 rfl ?_
                 cases hr
                 exact jn _ rfl rfl rfl
                ·
                 refine rn tk 2 rfl ?_
                 cases hr
                 exact jn _ rfl rfl rfl
               ·
                refine rn tk 5 rfl ?_
                cases hr
                exact atc rfl rfl
              ·
               refine rn tk 2 rfl ?_
               cases hr
               exact ato rfl rfl rfl rfl
            ·
             refine rn tk 2 rfl ?_
             cases hr
             exact jn _ rfl rfl rfl
           ·
            refine rn tk 6 rfl ?_
            refine ac 177 hr rfl (fun c66 hr => ?_) (fun c66 hr => ?_)
            ·
             refine rn tk 8 rfl ?_
             obtain ⟨v67, h68, hr⟩ := bind_some hr
             refine wi tk h68 rfl rfl rfl rfl rfl ?_
             refine rn tk 1 rfl ?_
             obtain ⟨v69, h70, hr⟩ := bind_some hr
             refine cl (R_Small_run _ _ h70) rfl rfl ?_
             refine rn tk 4 rfl ?_
             cases hr
             exact jn _ rfl rfl rfl
            ·
             refine rn tk 2 rfl ?_
             cases hr
             exact jn _ rfl rfl rfl
         ·
          refine rn tk 6 rfl ?_
          refine ac 186 hr rfl (fun c71 hr => ?_) (fun c71 hr => ?_)
          ·
           refine rn tk 1 rfl ?_
           refine drX 2 3 3 3 [1] [(188, .agg [.i v23.Code, .i v23.Index]), (187, .agg [.i 0, .s (([] : Str)), .s (([] : Str)), .i 0, .i 0, .bo false])] [(2, .ptr 2 0), (3, .ptr 3 0), (188, .agg [.i v23.Code, .i v23.Index])] [(8, .cells [.i v23.Code, .i v23.Index]), (6, .cells [.i b7, .s j34.1, .s j34.2.1, .i j42.2.1, .i j42.2.2.1, .bo j42.2.2.2]), (4, .cells [.i 0, .s (([] : Str)), .s (([] : Str)), .i 0, .i 0, .bo false]), (3, .cells [.i 0, .i 0]), (2, .cells [.i 0, .s (([] : Str)), .s (([] : Str)), .i 0, .i 0, .bo false])] tk mixed (by kernel_rfl) rfl rfl rfl (pqX tk rfl (.plain rfl) (pqX tk rfl (.plain rfl) .nil)) rfl rfl rfl rfl (by kernel_rfl) ?_
           refine rn tk 5 rfl ?_
           cases hr
           exact kr tk (.inr rfl) rfl rfl
          ·
           refine rn tk 1 rfl ?_
           exact jn ((j42.2.1, j42.2.2.1, j42.2.2.2)) hr rfl rfl
        ·
         refine rn tk 1 rfl ?_
         exact jn ((j34.2.2, j35, false)) hr rfl rfl
       ·
        intro j37 hr
        unfold R_CommandOf_k3 at hr
        refine rn tk 3 rfl ?_
        obtain ⟨v38, h39, hr⟩ := bind_some hr
        refine cl (R_CommandFault_run _ _ h39) rfl rfl ?_
        refine rn tk 12 rfl ?_
        refine ac 193 hr rfl (fun c40 hr => ?_) (fun c40 hr => ?_)
        ·
         refine rn tk 1 rfl ?_
         refine drX 2 3 3 3 [1] [(195, .agg [.i v38.Code, .i v38.Index]), (194, .agg [.i 0, .s (([] : Str)), .s (([] : Str)), .i 0, .i 0, .bo false])] [(2, .ptr 2 0), (3, .ptr 3 0), (195, .agg [.i v38.Code, .i v38.Index])] [(18, .cells [.i v38.Code, .i v38.Index]), (6, .cells [.i b7, .s j34.1, .s j34.2.1, .i j37.1, .i j37.2.1, .bo j37.2.2]), (4, .cells [.i 0, .s (([] : Str)), .s (([] : Str)), .i 0, .i 0, .bo false]), (3, .cells [.i 0, .i 0]), (2, .cells [.i 0, .s (([] : Str)), .s (([] : Str)), .i 0, .i 0, .bo false])] tk mixed (by kernel_rfl) rfl rfl rfl (pqX tk rfl (.plain rfl) (pqX tk rfl (.plain rfl) .nil)) rfl rfl rfl rfl (by kernel_rfl) ?_
         refine rn tk 5 rfl ?_
         cases hr
         exact kr tk (.inr rfl) rfl rfl
        ·
         refine rn tk 3 rfl ?_
         refine drX 2 3 3 3 [1] [(197, .agg [.i v38.Code, .i v38.Index]), (196, .agg [.i b7, .s j34.1, .s j34.2.1, .i j37.1, .i j37.2.1, .bo j37.2.2])] [(2, .ptr 2 0), (3, .ptr 3 0), (197, .agg [.i v38.Code, .i v38.Index])] [(18, .cells [.i v38.Code, .i v38.Index]), (6, .cells [.i b7, .s j34.1, .s j34.2.1, .i j37.1, .i j37.2.1, .bo j37.2.2]), (4, .cells [.i 0, .s (([] : Str)), .s (([] : Str)), .i 0, .i 0, .bo false]), (3, .cells [.i 0, .i 0]), (2, .cells [.i b7, .s j34.1, .s j34.2.1, .i j37.1, .i j37.2.1, .bo j37.2.2])] tk mixed (by kernel_rfl) rfl rfl rfl (pqX tk rfl (.plain rfl) (pqX tk rfl (.plain rfl) .nil)) rfl rfl rfl rfl (by kernel_rfl) ?_
         refine rn tk 4 rfl ?_
         cases hr
         exact kr tk (.inr rfl) rfl rfl
theorem L_CommandParseMatchesSpec_run (a0 : Str) (r : Bool) (hr : L_CommandParseMatchesSpec a0 = some r) : Run Tryz.prog 4 [.s a0] (.bo r) := by
 unfold L_CommandParseMatchesSpec at hr
 refine rf (fn := Tryz.f4) ⟨Tryz.func4, rfl, by kernel_rfl⟩ rfl (fun _ => rfl) fun g0 hg => ?_
 refine rn tk 8 rfl ?_
 obtain ⟨v1, h2, hr⟩ := bind_some hr
 refine cl (command_Parse_run _ _ h2) rfl rfl ?_
 refine rn tk 12 rfl ?_
 obtain ⟨v3, h4, hr⟩ := bind_some hr
 refine cl (R_CommandOf_run _ _ h4) rfl rfl ?_
 refine rn tk 9 rfl ?_
 refine jb hr (fun j5 => [(2, .bo j5)]) (fun j5 => []) (fun j5 hr => ?_) (fun j5 hr => ?_)
 ·
  refine rn tk 1 rfl ?_
  obtain ⟨v6, h7, hr⟩ := bind_some hr
  refine cl (L_commands_run _ h7) rfl rfl ?_
  refine rn tk 1 rfl ?_
  refine bs 18 hr rfl (fun c8 hr => ?_) (fun c8 hr => ?_)
  ·
   refine rn tk 2 rfl ?_
   refine ug rfl rfl rfl ?_
   refine wq (ev_structeq rfl rfl ty_api_Command cmp_api_Command (.int rfl (by decide) ty_int (.str rfl (by decide) ty_string (.str rfl (by decide) ty_string (.int rfl (by decide) ty_int (.int rfl (by decide) ty_int (.bool rfl (by decide) ty_bool .nil))))))) rfl rfl rfl ?_
   refine rn tk 2 rfl ?_
   refine bs 23 hr rfl (fun c9 hr => ?_) (fun c9 hr => ?_)
   ·
    refine rn tk 2 rfl ?_
    refine ug rfl rfl rfl ?_
    refine wq (ev_structeq rfl rfl ty_api_Fault cmp_api_Fault (.int rfl (by decide) ty_int (.int rfl (by decide) ty_int .nil))) rfl rfl rfl ?_
    refine rn tk 3 rfl ?_
    cases hr
    exact jn _ rfl rfl rfl
   ·
    refine rn tk 6 rfl ?_
    cases hr
    exact jn _ rfl rfl rfl
  ·
   refine rn tk 11 rfl ?_
   cases hr
   exact jn _ rfl rfl rfl
 ·
  refine rn tk 1 rfl ?_
  cases hr
  exact kr tk (.inr rfl) rfl rfl
end Go.Proofs.YtgbahimpdoahbaaGreatDoor

namespace Go.Proofs.YtgbahimpdoahbaaGreatDoor.commandParseMatchesSpec
open Go.ChangeShapes Go.WideShapes Go.ChangeAt Go.RowKit
set_option linter.unusedVariables false
set_option maxRecDepth 100000

theorem contract (H : Type) (enc : TypeId × Value → H) (W : World) (base : Nat) (args : Array Value) (ds gs : List (DataW H)) (before : List MemPlace)
    (hval : ∀ (j : Nat) t v, Tryz.f4.params[j]? = some t → args[j]? = some v → Value.okWide Tryz.prog W .any base t v)
    (hW : DataW.Whole enc Tryz.prog Tryz.f4.params.toList Rows.commandParseMatchesSpecSpec.vars false W args.toList ds gs before) (hk : Rows.uptoSmall H (ds ++ gs) = true) (hgl : Gl (gAll W)) :
    Calls Tryz.prog 4 args W fun e W' => ∃ v, e = .returned v ∧ Rows.commandParseMatchesSpecSpec.post enc Tryz.prog Tryz.f4 false true false false W args v W' := by
  have hW' := hW
  obtain ⟨p, q, hA0, hV, rfl, hfz, hnd⟩ := hW
  have hA : DataW.TrodAll enc Tryz.prog W 0 (fun _ => true) true Tryz.f4.params.toList args.toList ds p := hA0
  rw [Tryz.params4] at hA hval
  obtain ⟨v0, vs0, d0, ds0, p0, q0, hargs, rfl, rfl, h0, r0⟩ := trodAll_cons hA
  obtain ⟨rfl, rfl, rfl⟩ := trodAll_nil r0
  obtain rfl : args = #[v0] := by cases args; simp_all
  obtain ⟨rfl, rfl⟩ := trodVars_none hV
  obtain ⟨a0, e0, o0, k0⟩ := arg_one op_string (by obtain ⟨_, h⟩ := okWide_string ty_string.u (hval 0 _ v0 rfl rfl); rw [h]; rfl) h0
  have hk2 := of_decide_eq_true hk
  simp only [List.append_nil, Rows.uptoBulkAll] at hk2
  have ht := L_CommandParseMatchesSpec_true a0 o0 (by (try dsimp only); omega)
  have key : Calls Tryz.prog 4 #[v0] W fun e W' => e = .returned (.bool true) ∧ Below W.heap.size W W' := calls_of_run (L_CommandParseMatchesSpec_run a0 true ht) hgl (relArgs_of (.cons (e0 _ rfl) .nil))
  refine key.mono fun e W' ⟨he, hb⟩ => ⟨_, he, ?_⟩
  exact post_true laidOut (by kernel_rfl) Tryz.underlying4 (by kernel_rfl) rfl rfl hW' hb

/-- a world for the witness -/
noncomputable def wit (os : Os) : World := World.doorLaid Tryz.prog 62 os
theorem reads (os : Os) {H : Type} (enc : TypeId × Value → H) : ∃ places, DataW.whole enc Tryz.prog ((wit os).forCall (fun _ _ => 0) ⟨#[], #[.string ⟨#[]⟩], []⟩).memory Tryz.f4.params.toList (Rows.OpenSpec.upto Rows.commandParseMatchesSpecSpec).vars false (#[.string ⟨#[]⟩] : Array Value).toList 8 = some ([.lit (.string [])], [], places) :=
  ⟨[], by kernel_rfl⟩
theorem lifted (os : Os) (started : os.Started) (H : Type) (enc : TypeId × Value → H) (F : Stop.Interp) :
    ReturnsInHanded {} Tryz.checked os 4 .any ((Rows.OpenSpec.upto Rows.commandParseMatchesSpecSpec).preRow enc Tryz.prog Tryz.f4 Rows.commandParseMatchesSpecUptoRow.domain false Rows.commandParseMatchesSpecUptoRow.laid) (((Rows.OpenSpec.upto Rows.commandParseMatchesSpecSpec).at F).post enc Tryz.prog Tryz.f4 false true false false) := by
  obtain ⟨places, hx⟩ := reads os enc
  refine returnsInHanded_of_row (C := Tryz.checked) (s := Rows.OpenSpec.upto Rows.commandParseMatchesSpecSpec) own started (by kernel_rfl) Tryz.func4
    (witness_row_atRef (enc := enc) (C := Tryz.checked) false (wit os) #[.string ⟨#[]⟩] rfl (by kernel_rfl) (by kernel_rfl) (by kernel_rfl)
      (OpenSpec.preRow_of_cond 8 hx (by kernel_rfl) (fun k hk => by cases hk; kernel_rfl) (by kernel_rfl) (laidMet_of_run' 8 (by kernel_rfl) (by kernel_rfl)))) ?_
  intro W base args ds gs before hval hW _ hk _ hL hsh _
  exact contract H enc W base args ds gs before hval hW (hk _ rfl) (gl_of_laid (rest := Rows.commandParseMatchesSpecUptoRow.laid.drop 3) hsh (by kernel_rfl) hL (fun hm => gi_of_laid hm.tail.tail.tail.tail))

theorem j0 : jf0 Tryz.pinned.checked.prog 4 Tryz.f4 (Rows.OpenSpec.upto Rows.commandParseMatchesSpecSpec).bare Rows.commandParseMatchesSpecUptoRow = true := by kernel_rfl
theorem j1 : jf1 Tryz.pinned.checked.prog 4 Tryz.f4 (Rows.OpenSpec.upto Rows.commandParseMatchesSpecSpec).bare Rows.commandParseMatchesSpecUptoRow = true := by kernel_rfl
theorem j2 : jf2 Tryz.pinned.checked.prog 4 Tryz.f4 (Rows.OpenSpec.upto Rows.commandParseMatchesSpecSpec).bare Rows.commandParseMatchesSpecUptoRow = true := by kernel_rfl
theorem j3 : jf3 Tryz.pinned.checked.prog 4 Tryz.f4 (Rows.OpenSpec.upto Rows.commandParseMatchesSpecSpec).bare Rows.commandParseMatchesSpecUptoRow = true := by kernel_rfl
theorem j4 : jf4 Tryz.pinned.checked.prog 4 Tryz.f4 (Rows.OpenSpec.upto Rows.commandParseMatchesSpecSpec).bare Rows.commandParseMatchesSpecUptoRow = true := by kernel_rfl
theorem j5 : jf5 Tryz.pinned.checked.prog 4 Tryz.f4 (Rows.OpenSpec.upto Rows.commandParseMatchesSpecSpec).bare Rows.commandParseMatchesSpecUptoRow = true := by kernel_rfl
theorem j6 : jf6 Tryz.pinned.checked.prog 4 Tryz.f4 (Rows.OpenSpec.upto Rows.commandParseMatchesSpecSpec).bare Rows.commandParseMatchesSpecUptoRow = true := by kernel_rfl
theorem j7 : jf7 Tryz.pinned.checked.prog 4 Tryz.f4 (Rows.OpenSpec.upto Rows.commandParseMatchesSpecSpec).bare Rows.commandParseMatchesSpecUptoRow = true := by kernel_rfl
theorem j8 : jf8 Tryz.pinned.checked.prog 4 Tryz.f4 (Rows.OpenSpec.upto Rows.commandParseMatchesSpecSpec).bare Rows.commandParseMatchesSpecUptoRow = true := by kernel_rfl
theorem j9 : jf9 Tryz.pinned.checked.prog 4 Tryz.f4 (Rows.OpenSpec.upto Rows.commandParseMatchesSpecSpec).bare Rows.commandParseMatchesSpecUptoRow = true := by kernel_rfl
theorem j10 : jf10 Tryz.pinned.checked.prog 4 Tryz.f4 (Rows.OpenSpec.upto Rows.commandParseMatchesSpecSpec).bare Rows.commandParseMatchesSpecUptoRow = true := by kernel_rfl
theorem j11 : jf11 Tryz.pinned.checked.prog 4 Tryz.f4 (Rows.OpenSpec.upto Rows.commandParseMatchesSpecSpec).bare Rows.commandParseMatchesSpecUptoRow = true := by kernel_rfl
theorem j12 : jf12 Tryz.pinned.checked.prog 4 Tryz.f4 (Rows.OpenSpec.upto Rows.commandParseMatchesSpecSpec).bare Rows.commandParseMatchesSpecUptoRow = true := by kernel_rfl
theorem j13 : jf13 Tryz.pinned.checked.prog 4 Tryz.f4 (Rows.OpenSpec.upto Rows.commandParseMatchesSpecSpec).bare Rows.commandParseMatchesSpecUptoRow = true := by kernel_rfl
theorem j14 : jf14 Tryz.pinned.checked.prog 4 Tryz.f4 (Rows.OpenSpec.upto Rows.commandParseMatchesSpecSpec).bare Rows.commandParseMatchesSpecUptoRow = true := by kernel_rfl
theorem j15 : jf15 Tryz.pinned.checked.prog 4 Tryz.f4 (Rows.OpenSpec.upto Rows.commandParseMatchesSpecSpec).bare Rows.commandParseMatchesSpecUptoRow = true := by kernel_rfl
theorem j16 : jf16 Tryz.pinned.checked.prog 4 Tryz.f4 (Rows.OpenSpec.upto Rows.commandParseMatchesSpecSpec).bare Rows.commandParseMatchesSpecUptoRow = true := by kernel_rfl
theorem j17 : jf17 Tryz.pinned.checked.prog 4 Tryz.f4 (Rows.OpenSpec.upto Rows.commandParseMatchesSpecSpec).bare Rows.commandParseMatchesSpecUptoRow = true := by kernel_rfl
theorem j18 : jf18 Tryz.pinned.checked.prog 4 Tryz.f4 (Rows.OpenSpec.upto Rows.commandParseMatchesSpecSpec).bare Rows.commandParseMatchesSpecUptoRow = true := by kernel_rfl
theorem j19 : jf19 Tryz.pinned.checked.prog 4 Tryz.f4 (Rows.OpenSpec.upto Rows.commandParseMatchesSpecSpec).bare Rows.commandParseMatchesSpecUptoRow = true := by kernel_rfl
theorem j20 : jf20 Tryz.pinned.checked.prog 4 Tryz.f4 (Rows.OpenSpec.upto Rows.commandParseMatchesSpecSpec).bare Rows.commandParseMatchesSpecUptoRow = true := by kernel_rfl
theorem j21 : jf21 Tryz.pinned.checked.prog 4 Tryz.f4 (Rows.OpenSpec.upto Rows.commandParseMatchesSpecSpec).bare Rows.commandParseMatchesSpecUptoRow = true := by kernel_rfl
theorem j22 : jf22 Tryz.pinned.checked.prog 4 Tryz.f4 (Rows.OpenSpec.upto Rows.commandParseMatchesSpecSpec).bare Rows.commandParseMatchesSpecUptoRow = true := by kernel_rfl
theorem j23 : jf23 Tryz.pinned.checked.prog 4 Tryz.f4 (Rows.OpenSpec.upto Rows.commandParseMatchesSpecSpec).bare Rows.commandParseMatchesSpecUptoRow = true := by kernel_rfl
theorem j24 : jf24 Tryz.pinned.checked.prog 4 Tryz.f4 (Rows.OpenSpec.upto Rows.commandParseMatchesSpecSpec).bare Rows.commandParseMatchesSpecUptoRow = true := by kernel_rfl
theorem j25 : jf25 Tryz.pinned.checked.prog 4 Tryz.f4 (Rows.OpenSpec.upto Rows.commandParseMatchesSpecSpec).bare Rows.commandParseMatchesSpecUptoRow = true := by kernel_rfl
theorem j26 : jf26 Tryz.pinned.checked.prog 4 Tryz.f4 (Rows.OpenSpec.upto Rows.commandParseMatchesSpecSpec).bare Rows.commandParseMatchesSpecUptoRow = true := by kernel_rfl
theorem j27 : jf27 Tryz.pinned.checked.prog 4 Tryz.f4 (Rows.OpenSpec.upto Rows.commandParseMatchesSpecSpec).bare Rows.commandParseMatchesSpecUptoRow = true := by kernel_rfl
theorem j28 : jf28 Tryz.pinned.checked.prog 4 Tryz.f4 (Rows.OpenSpec.upto Rows.commandParseMatchesSpecSpec).bare Rows.commandParseMatchesSpecUptoRow = true := by kernel_rfl
theorem j29 : jf29 Tryz.pinned.checked.prog 4 Tryz.f4 (Rows.OpenSpec.upto Rows.commandParseMatchesSpecSpec).bare Rows.commandParseMatchesSpecUptoRow = true := by kernel_rfl
theorem j30 : jf30 Tryz.pinned.checked.prog 4 Tryz.f4 (Rows.OpenSpec.upto Rows.commandParseMatchesSpecSpec).bare Rows.commandParseMatchesSpecUptoRow = true := by kernel_rfl
theorem j31 : jf31 Tryz.pinned.checked.prog 4 Tryz.f4 (Rows.OpenSpec.upto Rows.commandParseMatchesSpecSpec).bare Rows.commandParseMatchesSpecUptoRow = true := by kernel_rfl
theorem said : Rows.commandParseMatchesSpecUptoRow.holds Tryz.pinned (Rows.OpenSpec.upto Rows.commandParseMatchesSpecSpec) :=
  OpenClaim.holds_of_cond 4 Tryz.f4 rfl rfl rfl rfl rfl rfl rfl ⟨rfl, rfl, rfl, rfl, rfl⟩ rfl rfl rfl rfl rfl (by kernel_rfl) Tryz.func4 (joined_of j0 j1 j2 j3 j4 j5 j6 j7 j8 j9 j10 j11 j12 j13 j14 j15 j16 j17 j18 j19 j20 j21 j22 j23 j24 j25 j26 j27 j28 j29 j30 j31)
    (of_decide_eq_true (by kernel_rfl)) (by unfold Func.isWrapper; first | (rw [if_pos (by decide +kernel)]; kernel_rfl) | (rw [if_neg (by decide +kernel)]; exact ⟨rfl, rfl⟩))
    (fun os started H enc _ F => by rw [OpenClaim.pre_eq_preRow]; exact lifted os started H enc F)

theorem plain (f : FuncId) (fn : Func) (hf : Tryz.pinned.checked.prog.funcNamed "posthouse/posthouselaw3.CommandParseMatchesSpec" = some f) (hfn : Tryz.pinned.checked.prog.funcs[f]? = some fn) :
    true = Tryz.pinned.checked.prog.looks [] ∧ ∀ (j : Nat) t, fn.params[j]? = some t → Tryz.pinned.checked.prog.wantsStandIn t = false := by
  obtain rfl : f = 4 := Option.some.inj ((show Tryz.prog.funcNamed "posthouse/posthouselaw3.CommandParseMatchesSpec" = some 4 by kernel_rfl).symm.trans hf) |>.symm
  obtain rfl : fn = Tryz.f4 := (Option.some.inj (Tryz.func4.symm.trans hfn)).symm
  refine ⟨by kernel_rfl, fun j t ht => ?_⟩
  rw [Tryz.params4] at ht
  have hm := Array.mem_of_getElem? ht
  simp only [List.mem_toArray, List.mem_cons, List.not_mem_nil, or_false] at hm
  rcases hm with rfl
  · exact (show Tryz.prog.wantsStandIn 9 = false by kernel_rfl)
theorem proved : Rows.CommandParseMatchesSpecUptoCardSaid :=
  Claim7.holds_tied_plain_at .later [] _ _ _ _ said (fun _ h => by cases h) (by kernel_rfl) (fun _ h => by cases h) commandParseMatchesSpecUpto_row_tie rfl ⟨rfl, rfl⟩ (by kernel_rfl) rfl plain (by kernel_rfl)
#print axioms proved
end Go.Proofs.YtgbahimpdoahbaaGreatDoor.commandParseMatchesSpec
