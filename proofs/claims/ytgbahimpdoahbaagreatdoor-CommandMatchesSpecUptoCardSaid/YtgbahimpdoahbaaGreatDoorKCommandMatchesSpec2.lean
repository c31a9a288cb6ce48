/- The law CommandMatchesSpec holds for every input of bulk up to the given bound: it returns true and leaves its arguments as they were. Written by program. -/
import Derived.Test.YtgbahimpdoahbaaGreatDoorKCommandMatchesSpec1
import Derived.Test.YtgbahimpdoahbaaGreatDoorShelf
set_option linter.unusedVariables false
set_option linter.unusedSimpArgs false
namespace Go.Proofs.YtgbahimpdoahbaaGreatDoor
open Go.RowKit
set_option maxRecDepth 100000
set_option maxHeartbeats 40000000
set_option linter.unusedVariables false
theorem command_Validate_run (a0 : TCommand) (r : TFault) (hr : command_Validate a0 = some r) : Run Tryz.prog 9 [.agg [.i a0.Verb, .s a0.Name, .s a0.Address, .i a0.Size, .i a0.Notify, .bo a0.Last]] (.agg [.i r.Code, .i r.Index]) := by
 unfold command_Validate at hr
 refine rf (fn := Tryz.f9) ⟨Tryz.func9, rfl, by kernel_rfl⟩ rfl (fun _ => rfl) fun g0 hg => ?_
 refine rn tk 6 rfl ?_
 refine jb hr (fun j1 => [(1, .ptr 1 0), (2, .ptr 2 0), (3, .bo j1)]) (fun j1 => [(2, .cells [.i 0, .i 0]), (1, .cells [.i a0.Verb, .s a0.Name, .s a0.Address, .i a0.Size, .i a0.Notify, .bo a0.Last])]) (fun j1 hr => ?_) (fun j1 hr => ?_)
 ·
  refine rn tk 5 rfl ?_
  refine bs 7 hr rfl (fun c2 hr => ?_) (fun c2 hr => ?_)
  ·
   refine rn tk 11 rfl ?_
   cases hr
   exact jn _ rfl rfl rfl
  ·
   refine rn tk 4 rfl ?_
   refine bs 11 hr rfl (fun c3 hr => ?_) (fun c3 hr => ?_)
   ·
    refine rn tk 7 rfl ?_
    cases hr
    exact jn _ rfl rfl rfl
   ·
    refine rn tk 7 rfl ?_
    cases hr
    exact jn _ rfl rfl rfl
 ·
  refine rn tk 2 rfl ?_
  refine jb hr (fun j4 => [(1, .ptr 1 0), (2, .ptr 2 0), (3, .bo j1), (17, .bo j4)]) (fun j4 => [(2, .cells [.i 0, .i 0]), (1, .cells [.i a0.Verb, .s a0.Name, .s a0.Address, .i a0.Size, .i a0.Notify, .bo a0.Last])]) (fun j4 hr => ?_) (fun j4 hr => ?_)
  ·
   refine rn tk 5 rfl ?_
   refine bs 21 hr rfl (fun c5 hr => ?_) (fun c5 hr => ?_)
   ·
    refine rn tk 6 rfl ?_
    cases hr
    exact jn _ rfl rfl rfl
   ·
    refine rn tk 6 rfl ?_
    cases hr
    exact jn _ rfl rfl rfl
  ·
   refine ac 17 hr rfl (fun c6 hr => ?_) (fun c6 hr => ?_)
   ·
    refine rn tk 2 rfl ?_
    obtain ⟨v7, h8, hr⟩ := bind_some hr
    refine cl (basic_Fault_run _ _ _ h8) rfl rfl ?_
    refine rn tk 6 rfl ?_
    cases hr
    exact kr tk (.inr rfl) rfl rfl
   ·
    refine rn tk 1 rfl ?_
    obtain ⟨v9, h10, hr⟩ := bind_some hr
    refine dr 3 [(30, .agg [.i v9.Verb, .s v9.Name, .s v9.Address, .i v9.Size, .i v9.Notify, .bo v9.Last]), (29, .agg [.i a0.Verb, .s a0.Name, .s a0.Address, .i a0.Size, .i a0.Notify, .bo a0.Last]), (28, .agg [.i a0.Verb, .s a0.Name, .s a0.Address, .i a0.Size, .i a0.Notify, .bo a0.Last])] mixed (by kernel_rfl) rfl rfl (pq tk rfl (.plain rfl) (pq tk rfl (.plain rfl) (.run (.plain rfl) (opG_call (command_used_run a0 v9 h10) rfl) .nil))) rfl ?_
    refine wq (ev_structne rfl rfl ty_api_Command cmp_api_Command (.int rfl (by decide) ty_int (.str rfl (by decide) ty_string (.str rfl (by decide) ty_string (.int rfl (by decide) ty_int (.int rfl (by decide) ty_int (.bool rfl (by decide) ty_bool .nil))))))) rfl rfl rfl ?_
    refine rn tk 3 rfl ?_
    refine ac 27 hr rfl (fun c11 hr => ?_) (fun c11 hr => ?_)
    ·
     refine rn tk 2 rfl ?_
     obtain ⟨v12, h13, hr⟩ := bind_some hr
     refine cl (basic_Fault_run _ _ _ h13) rfl rfl ?_
     refine rn tk 6 rfl ?_
     cases hr
     exact kr tk (.inr rfl) rfl rfl
    ·
     refine jb hr (fun j14 => [(1, .ptr 1 0), (2, .ptr 2 0), (3, .bo j1), (33, .bo j14)]) (fun j14 => [(2, .cells [.i 0, .i 0]), (1, .cells [.i a0.Verb, .s a0.Name, .s a0.Address, .i a0.Size, .i a0.Notify, .bo a0.Last])]) (fun j14 hr => ?_) (fun j14 hr => ?_)
     ·
      refine rn tk 5 rfl ?_
      refine bs 37 hr rfl (fun c15 hr => ?_) (fun c15 hr => ?_)
      ·
       refine rn tk 2 rfl ?_
       obtain ⟨v16, h17, hr⟩ := bind_some hr
       refine ug rfl rfl rfl ?_
       refine cl (basic_Name_run _ _ h17) rfl rfl ?_
       refine rn tk 4 rfl ?_
       cases hr
       exact jn _ rfl rfl rfl
      ·
       refine rn tk 7 rfl ?_
       cases hr
       exact jn _ rfl rfl rfl
     ·
      refine ac 33 hr rfl (fun c18 hr => ?_) (fun c18 hr => ?_)
      ·
       refine rn tk 2 rfl ?_
       obtain ⟨v19, h20, hr⟩ := bind_some hr
       refine cl (basic_Fault_run _ _ _ h20) rfl rfl ?_
       refine rn tk 6 rfl ?_
       cases hr
       exact kr tk (.inr rfl) rfl rfl
      ·
       refine jb hr (fun j21 => [(1, .ptr 1 0), (2, .ptr 2 0), (44, .bo j21)]) (fun j21 => [(2, .cells [.i 0, .i 0]), (1, .cells [.i a0.Verb, .s a0.Name, .s a0.Address, .i a0.Size, .i a0.Notify, .bo a0.Last])]) (fun j21 hr => ?_) (fun j21 hr => ?_)
       ·
        refine rn tk 3 rfl ?_
        refine bs 46 hr rfl (fun c22 hr => ?_) (fun c22 hr => ?_)
        ·
         refine rn tk 2 rfl ?_
         obtain ⟨v23, h24, hr⟩ := bind_some hr
         refine ug rfl rfl rfl ?_
         refine cl (envelope_Address_run _ _ h24) rfl rfl ?_
         refine rn tk 4 rfl ?_
         cases hr
         exact jn _ rfl rfl rfl
        ·
         refine rn tk 7 rfl ?_
         cases hr
         exact jn _ rfl rfl rfl
       ·
        refine ac 44 hr rfl (fun c25 hr => ?_) (fun c25 hr => ?_)
        ·
         refine rn tk 2 rfl ?_
         obtain ⟨v26, h27, hr⟩ := bind_some hr
         refine cl (basic_Fault_run _ _ _ h27) rfl rfl ?_
         refine rn tk 6 rfl ?_
         cases hr
         exact kr tk (.inr rfl) rfl rfl
        ·
         refine jb hr (fun j28 => [(1, .ptr 1 0), (2, .ptr 2 0), (53, .bo j28)]) (fun j28 => [(2, .cells [.i 0, .i 0]), (1, .cells [.i a0.Verb, .s a0.Name, .s a0.Address, .i a0.Size, .i a0.Notify, .bo a0.Last])]) (fun j28 hr => ?_) (fun j28 hr => ?_)
         ·
          refine rn tk 5 rfl ?_
          refine bs 57 hr rfl (fun c29 hr => ?_) (fun c29 hr => ?_)
          ·
           refine rn tk 6 rfl ?_
           cases hr
           exact jn _ rfl rfl rfl
          ·
           refine rn tk 6 rfl ?_
           cases hr
           exact jn _ rfl rfl rfl
         ·
          refine ac 53 hr rfl (fun c30 hr => ?_) (fun c30 hr => ?_)
          ·
           refine rn tk 2 rfl ?_
           obtain ⟨v31, h32, hr⟩ := bind_some hr
           refine cl (basic_Fault_run _ _ _ h32) rfl rfl ?_
           refine rn tk 6 rfl ?_
           cases hr
           exact kr tk (.inr rfl) rfl rfl
          ·
           refine rn tk 4 rfl ?_
           obtain ⟨v33, h34, hr⟩ := bind_some hr
           refine cl (envelope_Notify_run _ _ h34) rfl rfl ?_
           refine rn tk 4 rfl ?_
           refine ac 63 hr rfl (fun c35 hr => ?_) (fun c35 hr => ?_)
           ·
            refine rn tk 2 rfl ?_
            obtain ⟨v36, h37, hr⟩ := bind_some hr
            refine cl (basic_Fault_run _ _ _ h37) rfl rfl ?_
            refine rn tk 6 rfl ?_
            cases hr
            exact kr tk (.inr rfl) rfl rfl
           ·
            refine rn tk 5 rfl ?_
            obtain ⟨v38, h39, hr⟩ := bind_some hr
            refine cl (basic_None_run _ h39) rfl rfl ?_
            refine rn tk 4 rfl ?_
            cases hr
            exact kr tk (.inr rfl) rfl rfl
end Go.Proofs.YtgbahimpdoahbaaGreatDoor

/- Library functions compute what their Lean functions do: strings.CutPrefix. -/
namespace Go.Proofs.YtgbahimpdoahbaaGreatDoor
open Go.RowKit
set_option maxRecDepth 100000
theorem str_argTp {g : G} {s : Str} {v : Value} (h : Rel g (.s s) v) : v = .string (strB s) := rel_b h
theorem strings_CutPrefix_run (s t : Str) (r : Str × Bool) (hr : strings_CutPrefix s t = some r) : Run Tryz.prog 60 [.s s, .s t] (.tup [.s r.1, .bo r.2]) := by
  unfold strings_CutPrefix at hr
  cases hr
  refine ⟨⟨_, _, ⟨Tryz.func60, rfl, by kernel_rfl⟩⟩, fun g vs hw hg ha => ?_⟩
  obtain ⟨hsz, hrel⟩ := ha
  obtain ⟨l⟩ := vs
  match l, hsz with
  | [x, y], _ =>
    obtain rfl := str_argTp (hrel 0 _ rfl)
    obtain rfl := str_argTp (hrel 1 _ rfl)
    refine callsIn_wide.2 ((Tryz.strings_CutPrefix (strB s) (strB t) g.w).mono ?_)
    rintro e w' ⟨rfl, rfl⟩
    refine ⟨g, _, rfl, rfl, Old.refl _ g, hw, rfl, .tup rfl fun i c hi => ?_⟩
    match i, hi with
    | 0, rfl => exact .pv (.b rfl)
    | 1, rfl => exact .pv (.b rfl)
end Go.Proofs.YtgbahimpdoahbaaGreatDoor

/- Library functions compute what their Lean functions do: strings.CutSuffix. -/
namespace Go.Proofs.YtgbahimpdoahbaaGreatDoor
open Go.RowKit
set_option maxRecDepth 100000
theorem str_argTx {g : G} {s : Str} {v : Value} (h : Rel g (.s s) v) : v = .string (strB s) := rel_b h
theorem strings_CutSuffix_run (s t : Str) (r : Str × Bool) (hr : strings_CutSuffix s t = some r) : Run Tryz.prog 61 [.s s, .s t] (.tup [.s r.1, .bo r.2]) := by
  unfold strings_CutSuffix at hr
  split at hr
  case isFalse => cases hr
  rename_i hlen
  cases hr
  refine ⟨⟨_, _, ⟨Tryz.func61, rfl, by kernel_rfl⟩⟩, fun g vs hw hg ha => ?_⟩
  obtain ⟨hsz, hrel⟩ := ha
  obtain ⟨l⟩ := vs
  match l, hsz with
  | [x, y], _ =>
    obtain rfl := str_argTx (hrel 0 _ rfl)
    obtain rfl := str_argTx (hrel 1 _ rfl)
    refine callsIn_wide.2 ((Tryz.strings_CutSuffix (strB s) (strB t) g.w (by rw [strB_size]; exact hlen)).mono ?_)
    rintro e w' ⟨rfl, rfl⟩
    refine ⟨g, _, rfl, rfl, Old.refl _ g, hw, rfl, .tup rfl fun i c hi => ?_⟩
    match i, hi with
    | 0, rfl => exact .pv (.b rfl)
    | 1, rfl => exact .pv (.b rfl)
end Go.Proofs.YtgbahimpdoahbaaGreatDoor

namespace Go.Proofs.YtgbahimpdoahbaaGreatDoor
open Go.RowKit
set_option maxRecDepth 100000
set_option maxHeartbeats 40000000
set_option linter.unusedVariables false
theorem command_address_run (a0 : Str) (r : Str × Bool) (hr : command_address a0 = some r) : Run Tryz.prog 48 [.s a0] (.tup [.s r.1, .bo r.2]) := by
 unfold command_address at hr
 refine rf (fn := Tryz.f48) ⟨Tryz.func48, rfl, by kernel_rfl⟩ rfl (fun _ => rfl) fun g0 hg => ?_
 refine rn tk 9 rfl ?_
 obtain ⟨v1, h2, hr⟩ := bind_some hr
 refine cl (strings_CutPrefix_run _ _ _ h2) rfl rfl ?_
 refine rn tk 10 rfl ?_
 obtain ⟨v3, h4, hr⟩ := bind_some hr
 refine cl (strings_CutSuffix_run _ _ _ h4) rfl rfl ?_
 refine rn tk 7 rfl ?_
 refine jb hr (fun j5 => [(2, .s v3.1), (3, .bo j5)]) (fun j5 => []) (fun j5 hr => ?_) (fun j5 hr => ?_)
 ·
  refine rn tk 4 rfl ?_
  refine bs 19 hr rfl (fun c6 hr => ?_) (fun c6 hr => ?_)
  ·
   refine rn tk 5 rfl ?_
   cases hr
   exact jn _ rfl rfl rfl
  ·
   refine rn tk 5 rfl ?_
   cases hr
   exact jn _ rfl rfl rfl
 ·
  refine rn tk 1 rfl ?_
  cases hr
  exact kr tk (.inr rfl) rfl rfl
end Go.Proofs.YtgbahimpdoahbaaGreatDoor

/- Numerals of the library: the functions compute what their Lean functions do. -/
namespace Go.Proofs.YtgbahimpdoahbaaGreatDoor
open Go.RowKit
set_option maxRecDepth 100000
theorem str_argN {g : G} {s : Str} {v : Value} (h : Rel g (.s s) v) : v = .string (strB s) := rel_b h
theorem pow_tab {g : G} (hg : Gl g) : Lib.TabIs Tryz.prog g.w "internal/strconv.uint64pow10" .u64 Lib.pow10Tab := by
  obtain ⟨t, fz, h⟩ := hg.2.1 (0, (Lib.pow10Tab.map fun z => Value.int .u64 z).toArray) (by simp [globK])
  have hn : Tryz.prog.globalNamed "internal/strconv.uint64pow10" = some 0 := by kernel_rfl
  unfold Lib.TabIs World.var?
  rw [hn]
  simp only [Option.bind_some]
  simp only at h
  rw [h]
theorem old_more (g : G) (q : Nat) (os : Array Obj) : Old (fun _ => False) g ⟨Go.Sort.grow (g.w.drewN q) os, g.u, g.loc⟩ := by
  have hb : ∀ k, k < g.w.heap.size → (Go.Sort.grow (g.w.drewN q) os).heap[k]? = g.w.heap[k]? := by
    intro k hk
    show (g.w.heap ++ os)[k]? = _
    rw [Array.getElem?_append_left hk]
  refine ⟨rfl, rfl, rfl, ⟨?_, fun _ _ => Nat.le_refl _, fun k i hk hi => ?_, fun r hr => (hb r (blk_lt hr)).trans hr⟩, fun k hk _ => ⟨hb k hk, rfl⟩⟩
  · show g.w.heap.size ≤ (g.w.heap ++ os).size
    simp
  · simp only [World.cell?]; rw [hb k hk]
end Go.Proofs.YtgbahimpdoahbaaGreatDoor

/- Numerals of the library: Atoi computes what its Lean function does. -/
namespace Go.Proofs.YtgbahimpdoahbaaGreatDoor
open Go.RowKit
set_option maxRecDepth 100000
theorem old_bytes (g : G) (e : TypeId) (s : ByteArray) : Old (fun _ => False) g ⟨Lib.bytesWorld g.w e s, g.u, g.loc⟩ := by
  generalize hw : Lib.bytesWorld g.w e s = w'
  unfold Lib.bytesWorld at hw
  have hother : ∀ q, q < g.w.heap.size → w'.heap[q]? = g.w.heap[q]? := by
    intro q hq
    subst hw
    simp only [World.freeze, Nat.one_ne_zero, if_false, Array.getElem?_modify]
    rw [if_neg (by omega)]
    exact Below.heap_alloc g.w.drew _ _ hq
  have hws : w'.heap.size = g.w.heap.size + 1 := by subst hw; simp [World.freeze]
  refine ⟨by subst hw; first | (simp [World.freeze]; done) | (simp [World.freeze]; rfl), by subst hw; first | (simp [World.freeze]; done) | (simp [World.freeze]; rfl), by subst hw; first | (simp [World.freeze]; done) | (simp [World.freeze]; rfl), ⟨by show g.w.heap.size ≤ w'.heap.size; omega, fun _ _ => Nat.le_refl _, fun k i hk hi => ?_, fun r hr => (hother r (blk_lt hr)).trans hr⟩, fun k hk _ => ⟨hother k hk, rfl⟩⟩
  simp only [World.cell?]; rw [hother k hk]
theorem old_belowS {g : G} {w' : World} (h : Below g.w.heap.size g.w w') : Old (fun _ => False) g ⟨w', g.u, g.loc⟩ :=
  ⟨h.os, h.tape, h.output, ⟨h.size, fun _ _ => Nat.le_refl _, fun k i hk _ => by simp only [World.cell?]; rw [h.block k hk], fun r hr => (h.block r (blk_lt hr)).trans hr⟩, fun k hk _ => ⟨h.block k hk, rfl⟩⟩
theorem err_var {g : G} (hg : Gl g) : ∃ tp p, g.w.var? Tryz.prog "strconv.ErrSyntax" = some #[.iface tp p] := by
  obtain ⟨tp, x, t, fz, h⟩ := hg.2.2 4 (by simp [globI])
  have hn : Tryz.prog.globalNamed "strconv.ErrSyntax" = some 4 := by kernel_rfl
  refine ⟨tp, x, ?_⟩
  unfold World.var?
  rw [hn]
  simp only [Option.bind_some]
  rw [h]
theorem strconv_Atoi_run (s : Str) (r : Int × Bool) (hr : strconv_Atoi s = some r) : Run Tryz.prog 77 [.s s] (.tup [.i r.1, .ifc r.2]) := by
  unfold strconv_Atoi at hr
  split at hr
  case isFalse => cases hr
  rename_i hlen
  refine ⟨⟨_, _, ⟨Tryz.func77, rfl, by kernel_rfl⟩⟩, fun g vs hw hg ha => ?_⟩
  obtain ⟨hsz, hrel⟩ := ha
  obtain ⟨l⟩ := vs
  match l, hsz with
  | [x], _ =>
    obtain rfl := str_argN (hrel 0 _ rfl)
    cases hn : Lib.atoi s with
    | none =>
      rw [hn] at hr
      cases hr
      obtain ⟨tp, p, hvar⟩ := err_var hg
      refine callsIn_wide.2 ((Tryz.strconv_Atoi_err_var (strB s) (by rw [strB_size]; exact hlen) (by simpa [strB] using hn) tp p g.w hvar).mono ?_)
      rintro e w' ⟨N, rfl, _, _, hb⟩
      exact ⟨⟨w', g.u, g.loc⟩, _, rfl, rfl, old_belowS hb, fun k hk => hw k (Nat.le_trans hb.size hk), rfl, .tup rfl fun i c hi => by
        match i, hi with
        | 0, rfl => exact .pv (.b rfl)
        | 1, rfl => exact .ifc rfl⟩
    | some n =>
      rw [hn] at hr
      cases hr
      refine callsIn_wide.2 ((Tryz.strconv_Atoi (strB s) n (by rw [strB_size]; exact hlen) (by simpa [strB] using hn) g.w).mono ?_)
      rintro e w' ⟨rfl, t, rfl⟩
      exact ⟨⟨_, g.u, g.loc⟩, _, rfl, rfl, old_bytes g _ _, fun k hk => hw k (Nat.le_trans (old_bytes g _ _).ext.size hk), rfl, .tup rfl fun i c hi => by
        match i, hi with
        | 0, rfl => exact .pv (.b rfl)
        | 1, rfl => exact .ifc rfl⟩
end Go.Proofs.YtgbahimpdoahbaaGreatDoor

/- Numerals of the library: Itoa computes what its Lean function does. -/
namespace Go.Proofs.YtgbahimpdoahbaaGreatDoor
open Go.RowKit
set_option maxRecDepth 100000
theorem strconv_Itoa_run (n : Int) (r : Str) (hr : strconv_Itoa n = some r) : Run Tryz.prog 18 [.i n] (.s r) := by
  unfold strconv_Itoa at hr
  split at hr
  case isFalse => cases hr
  rename_i hlen
  cases hr
  refine ⟨⟨_, _, ⟨Tryz.func18, rfl, by kernel_rfl⟩⟩, fun g vs hw hg ha => ?_⟩
  obtain ⟨hsz, hrel⟩ := ha
  obtain ⟨l⟩ := vs
  match l, hsz with
  | [x], _ =>
    have e2 : x = .int .i64 n := rel_b (hrel 0 _ rfl)
    subst e2
    refine callsIn_wide.2 ((Tryz.strconv_Itoa n hlen.1 hlen.2 g.w (pow_tab hg)).mono ?_)
    rintro e w' ⟨rfl, q, os, rfl⟩
    exact ⟨⟨Go.Sort.grow (g.w.drewN q) os, g.u, g.loc⟩, _, rfl, rfl, old_more g q os, fun k hk => hw k (Nat.le_trans (old_more g q os).ext.size hk), rfl, .pv (.b rfl)⟩
end Go.Proofs.YtgbahimpdoahbaaGreatDoor

namespace Go.Proofs.YtgbahimpdoahbaaGreatDoor
open Go.RowKit
set_option maxRecDepth 100000
set_option maxHeartbeats 40000000
set_option linter.unusedVariables false
theorem basic_Number_run (a0 : Str) (a1 : Int) (r : Int × Bool) (hr : basic_Number a0 a1 = some r) : Run Tryz.prog 62 [.s a0, .i a1] (.tup [.i r.1, .bo r.2]) := by
 unfold basic_Number at hr
 refine rf (fn := Tryz.f62) ⟨Tryz.func62, rfl, by kernel_rfl⟩ rfl (fun _ => rfl) fun g0 hg => ?_
 refine rn tk 9 rfl ?_
 obtain ⟨v1, h2, hr⟩ := bind_some hr
 refine cl (strconv_Atoi_run _ _ h2) rfl rfl ?_
 refine rn tk 8 rfl ?_
 refine jb hr (fun j3 => [(6, .i v1.1), (29, .bo j3)]) (fun j3 => []) (fun j3 hr => ?_) (fun j3 hr => ?_)
 ·
  refine rn tk 2 rfl ?_
  refine wq (ev_ifneq rfl rfl ty_error) rfl rfl rfl ?_
  refine rn tk 1 rfl ?_
  refine bs 15 hr rfl (fun c4 hr => ?_) (fun c4 hr => ?_)
  ·
   refine rn tk 15 rfl ?_
   cases hr
   exact jn _ rfl rfl rfl
  ·
   refine rn tk 1 rfl ?_
   obtain ⟨v5, h6, hr⟩ := bind_some hr
   refine ug rfl rfl rfl ?_
   refine cl (strconv_Itoa_run _ _ h6) rfl rfl ?_
   refine rn tk 4 rfl ?_
   refine bs 21 hr rfl (fun c7 hr => ?_) (fun c7 hr => ?_)
   ·
    refine rn tk 9 rfl ?_
    cases hr
    exact jn _ rfl rfl rfl
   ·
    refine rn tk 4 rfl ?_
    refine bs 25 hr rfl (fun c8 hr => ?_) (fun c8 hr => ?_)
    ·
     refine rn tk 5 rfl ?_
     cases hr
     exact jn _ rfl rfl rfl
    ·
     refine rn tk 5 rfl ?_
     cases hr
     exact jn _ rfl rfl rfl
 ·
  refine ac 29 hr rfl (fun c9 hr => ?_) (fun c9 hr => ?_)
  ·
   refine rn tk 8 rfl ?_
   cases hr
   exact kr tk (.inr rfl) rfl rfl
  ·
   refine rn tk 10 rfl ?_
   cases hr
   exact kr tk (.inr rfl) rfl rfl
theorem command_number_run (a0 : Str) (r : Int × Bool) (hr : command_number a0 = some r) : Run Tryz.prog 50 [.s a0] (.tup [.i r.1, .bo r.2]) := by
 unfold command_number at hr
 refine rf (fn := Tryz.f50) ⟨Tryz.func50, rfl, by kernel_rfl⟩ rfl (fun _ => rfl) fun g0 hg => ?_
 refine rn tk 14 rfl ?_
 refine ac 6 hr rfl (fun c1 hr => ?_) (fun c1 hr => ?_)
 ·
  refine rn tk 8 rfl ?_
  cases hr
  exact kr tk (.inr rfl) rfl rfl
 ·
  refine rn tk 5 rfl ?_
  obtain ⟨v2, h3, hr⟩ := bind_some hr
  refine cl (basic_Number_run _ _ _ h3) rfl rfl ?_
  refine rn tk 7 rfl ?_
  cases hr
  exact kr tk (.inr rfl) rfl rfl
theorem command_option_run (a0 : List Str) (a1 : Str) (r : Str × Bool) (hr : command_option a0 a1 = some r) : Run Tryz.prog 49 [.l cS a0, .s a1] (.tup [.s r.1, .bo r.2]) := by
 unfold command_option at hr
 refine rf (fn := Tryz.f49) ⟨Tryz.func49, rfl, by kernel_rfl⟩ rfl (fun _ => rfl) fun g0 hg => ?_
 refine rn tk 10 rfl ?_
 refine wn tk rfl rfl rfl ?_
 refine rn tk 3 rfl ?_
 refine ac 8 hr rfl (fun c1 hr => ?_) (fun c1 hr => ?_)
 ·
  refine rn tk 8 rfl ?_
  cases hr
  exact kr tk (.inr rfl) rfl rfl
 ·
  refine rn tk 5 rfl ?_
  obtain ⟨v2, h3, hr⟩ := bind_some hr
  refine wi tk h3 rfl rfl rfl rfl rfl ?_
  refine rn tk 1 rfl ?_
  obtain ⟨v4, h5, hr⟩ := bind_some hr
  refine cl (basic_Lower_run _ _ h5) rfl rfl ?_
  refine rn tk 1 rfl ?_
  obtain ⟨v6, h7, hr⟩ := bind_some hr
  refine wc h7 rfl rfl rfl ?_
  obtain ⟨v8, h9, hr⟩ := bind_some hr
  refine cl (strings_CutPrefix_run _ _ _ h9) rfl rfl ?_
  refine rn tk 7 rfl ?_
  cases hr
  exact kr tk (.inr rfl) rfl rfl
theorem command_read_1_run (a0 : Int) (a1 : Int) (c0_0 : List Str) (r : Bool) (hr : command_read_1 a0 a1 c0_0 = some r) : Run Tryz.prog 47 [.i a0, .i a1, .ep [pL cS c0_0]] (.bo r) := by
 unfold command_read_1 at hr
 refine rf (fn := Tryz.f47) ⟨Tryz.func47, rfl, by kernel_rfl⟩ rfl (fun _ => rfl) fun g0 hg => ?_
 refine rn tk 5 rfl ?_
 refine jb hr (fun j1 => [(5, .bo j1)]) (fun j1 => []) (fun j1 hr => ?_) (fun j1 hr => ?_)
 ·
  refine rn tk 2 rfl ?_
  refine wn tk rfl rfl rfl ?_
  refine rn tk 3 rfl ?_
  refine bs 10 hr rfl (fun c2 hr => ?_) (fun c2 hr => ?_)
  ·
   refine rn tk 1 rfl ?_
   refine ug rfl rfl rfl ?_
   refine wn tk rfl rfl rfl ?_
   refine rn tk 5 rfl ?_
   cases hr
   exact jn _ rfl rfl rfl
  ·
   refine rn tk 7 rfl ?_
   cases hr
   exact jn _ rfl rfl rfl
 ·
  refine rn tk 1 rfl ?_
  cases hr
  exact kr tk (.inr rfl) rfl rfl
end Go.Proofs.YtgbahimpdoahbaaGreatDoor

/- Library functions compute what their Lean functions do: texts joined and repeated. -/
namespace Go.Proofs.YtgbahimpdoahbaaGreatDoor
open Go.RowKit
set_option maxRecDepth 100000
theorem old_below {g : G} {w' : World} (h : Below g.w.heap.size g.w w') : Old (fun _ => False) g ⟨w', g.u, g.loc⟩ :=
  ⟨h.os, h.tape, h.output, ⟨h.size, fun _ _ => Nat.le_refl _, fun k i hk _ => by simp only [World.cell?]; rw [h.block k hk], fun r hr => (h.block r (blk_lt hr)).trans hr⟩, fun k hk _ => ⟨h.block k hk, rfl⟩⟩
theorem str_argJ {g : G} {s : Str} {v : Value} (h : Rel g (.s s) v) : v = .string (strB s) := rel_b h
/-- texts, where they lie -/
theorem str_cells {g : G} {l : List Str} {v : Value} (h : Rel g (.l cS l) v) : ∃ ad cap, v = .slice ad l.length cap ∧ l.length ≤ cap ∧ (l ≠ [] → ∃ b off, ad = some ⟨b, off, none⟩ ∧ b < g.w.heap.size ∧ ∀ (i : Nat) s, l[i]? = some s → g.w.cell? ⟨b, off + i, none⟩ = some (.string (strB s))) := by
  cases h with
  | pv h =>
    generalize hE : l.map cS = elems at h
    have hEl : elems.length = l.length := by rw [← hE]; simp
    unfold pL at h
    rw [hE] at h
    cases h with
    | @sl _ _ a cap size b off val hn h0 hc hz ha hu hcell h =>
      refine ⟨a, cap, by rw [hEl], by omega, fun hne => ?_⟩
      have hne' : elems ≠ [] := by rw [← hE]; simpa using hne
      refine ⟨b, off, ha hne', (hu hne').2, fun i s hi => ?_⟩
      have hget : elems[i]? = some (cS s) := by rw [← hE]; simp [hi]
      have hs1 : size = 1 := by
        have := hz _ (List.mem_of_getElem? hget)
        simpa [cS] using this.symm
      subst hs1
      have hlt : i < elems.length := (List.getElem?_eq_some_iff.1 hget).1
      rw [hcell i (by omega)]
      have := h i 0 _ (.b (.string (strB s))) hget rfl
      simp only [Nat.mul_one, Nat.add_zero] at this
      have e := rel_b (g := g) (.pv this)
      rw [e]
theorem strings_Join_run (l : List Str) (s : Str) (r : Str) (hr : strings_Join l s = some r) : Run Tryz.prog 42 [.l cS l, .s s] (.s r) := by
  unfold strings_Join at hr
  split at hr
  case isFalse => cases hr
  rename_i hlen
  cases hr
  refine ⟨⟨_, _, ⟨Tryz.func42, rfl, by kernel_rfl⟩⟩, fun g vs hw hg ha => ?_⟩
  obtain ⟨hsz, hrel⟩ := ha
  obtain ⟨vl⟩ := vs
  match vl, hsz with
  | [x, y], _ =>
    have h0 : Rel g (.l cS l) x := hrel 0 _ rfl
    obtain rfl := str_argJ (hrel 1 _ rfl)
    obtain ⟨ad, cap, rfl, hcap, hcell⟩ := str_cells h0
    refine callsIn_wide.2 ?_
    suffices hs : Calls Tryz.prog 42 #[.slice ad l.length cap, .string (strB s)] g.w fun e w' => e = .returned (.string (strB (Lib.join l s))) ∧ Below g.w.heap.size g.w w' by
      refine hs.mono ?_
      rintro e w' ⟨rfl, hb⟩
      exact ⟨⟨w', g.u, g.loc⟩, _, rfl, rfl, old_below hb, fun k hk => hw k (Nat.le_trans hb.size hk), rfl, .pv (.b rfl)⟩
    cases l with
    | nil => exact (Tryz.strings_Join_none ad cap (strB s) g.w).mono fun e w' ⟨he, hw⟩ => ⟨he, hw ▸ Below.refl _ _⟩
    | cons a l =>
      obtain ⟨b, off, rfl, hb, hc⟩ := hcell (by simp)
      have e1 : ((a :: l).map strB).map (·.data.toList) = a :: l := by
        rw [List.map_map]
        conv => rhs; rw [← List.map_id (a :: l)]
        exact List.map_congr_left fun x _ => rfl
      have := Tryz.strings_Join b off cap ((a :: l).map strB) (strB s) g.w (fun j x hx => by
        simp only [List.getElem?_map, Option.map_eq_some_iff] at hx
        obtain ⟨y, hy, rfl⟩ := hx
        exact hc j y hy) hb (by rw [List.length_map]; exact hlen.1) (by rw [List.length_map]; exact hcap) (by rw [e1]; exact hlen.2)
      rw [e1, List.length_map] at this
      exact this
end Go.Proofs.YtgbahimpdoahbaaGreatDoor

namespace Go.Proofs.YtgbahimpdoahbaaGreatDoor
open Go.RowKit
set_option maxRecDepth 100000
set_option maxHeartbeats 40000000
set_option linter.unusedVariables false
theorem command_conditions_run  (r : Tcommand_condition × Tcommand_condition × Tcommand_condition) (hr : command_conditions = some r) : Run Tryz.prog 41 [] (.agg [.i r.1.n, .s r.1.word, .i r.2.1.n, .s r.2.1.word, .i r.2.2.n, .s r.2.2.word]) := by
 unfold command_conditions at hr
 refine rf (fn := Tryz.f41) ⟨Tryz.func41, rfl, by kernel_rfl⟩ rfl (fun _ => rfl) fun g0 hg => ?_
 refine rn tk 10 rfl ?_
 refine wq (ev_buildA (cs := [.i 1, .s (([102, 97, 105, 108, 117, 114, 101] : Str)), .i 2, .s (([100, 101, 108, 97, 121] : Str)), .i 4, .s (([115, 117, 99, 99, 101, 115, 115] : Str))]) ty__3_command_condition ty_command_condition (.inr ⟨rfl, rfl⟩) (by kernel_rfl)) rfl rfl rfl ?_
 refine rn tk 4 rfl ?_
 cases hr
 exact kr tk (.inr rfl) rfl rfl
theorem command_notify_run (a0 : Int) (r : Str) (hr : command_notify a0 = some r) : Run Tryz.prog 19 [.i a0] (.s r) := by
 unfold command_notify at hr
 refine rf (fn := Tryz.f19) ⟨Tryz.func19, rfl, by kernel_rfl⟩ rfl (fun _ => rfl) fun g0 hg => ?_
 refine rn tk 8 rfl ?_
 refine awpl_adopt 1003 (d := 3) 9 1 rfl rfl rfl (hO ?_)
 refine rn tk 5 rfl ?_
 obtain ⟨v1, h2, hr⟩ := bind_some hr
 refine cl (command_conditions_run _ h2) rfl rfl ?_
 refine rn tk 4 rfl ?_
 refine al1 hr (fun s3 => [(0, .i a0), (3, .hs 1003 0), (6, .agg [.i v1.1.n, .s v1.1.word, .i v1.2.1.n, .s v1.2.1.word, .i v1.2.2.n, .s v1.2.2.word]), (7, .i s3.1)]) (fun s3 => [(1003, .row 9 false 1 (List.map cS s3.2))]) (.exit 0) (fun b4 => [(3, .hs 1003 0)]) (fun b4 => [(1003, .row 9 false 1 (List.map cS b4))]) rfl rfl (fun s3 x5 hr => ?_) (fun b4 hr => ?_)
 ·
  unfold command_notify_l1 at hr
  refine rn tk 6 rfl ?_
  refine ac 8 hr rfl (fun c6 hr => ?_) (fun c6 hr => ?_)
  ·
   refine rn tk 2 rfl ?_
   refine jb hr (fun j7 => [(0, .i a0), (3, .hs 1003 0), (6, .agg [.i v1.1.n, .s v1.1.word, .i v1.2.1.n, .s v1.2.1.word, .i v1.2.2.n, .s v1.2.2.word]), (7, .i s3.1)]) (fun j7 => [(1003, .row 9 false 1 (List.map cS j7))]) (fun j7 hr => ?_) (fun j7 hr => ?_)
   ·
    refine rn tk 3 rfl ?_
    obtain ⟨v8, h9, hr⟩ := bind_some hr
    refine wq (ev_aidxN (f := Tcommand_condition.pc) (L := ([v1.1, v1.2.1, v1.2.2] : List Tcommand_condition)) rfl rfl ty__3_command_condition ty_command_condition rfl rfl (fun _ => rfl) h9) rfl rfl rfl ?_
    refine rn tk 9 rfl ?_
    refine wq (ev_iand rfl rfl) rfl rfl rfl ?_
    refine rn tk 3 rfl ?_
    refine ac 14 hr rfl (fun c10 hr => ?_) (fun c10 hr => ?_)
    ·
     refine rn tk 4 rfl ?_
     refine wz cS ([v8.word] : List Str) tk rfl rfl (fun _ => rfl) rfl rfl rfl ?_
     obtain ⟨v11, h12, hr⟩ := bind_some hr
     refine wa tk h12 rfl rfl rfl rfl (fun _ => rfl) rfl rfl ?_
     refine rn tk 3 rfl ?_
     cases hr
     exact jn _ rfl rfl rfl
    ·
     refine rn tk 2 rfl ?_
     cases hr
     exact jn _ rfl rfl rfl
   ·
    refine rn tk 4 rfl ?_
    cases hr
    exact atc rfl rfl
  ·
   refine rn tk 2 rfl ?_
   cases hr
   exact ato rfl rfl rfl rfl
 ·
  refine rn tk 6 rfl ?_
  refine wnh tk rfl rfl rfl rfl ?_
  refine rn tk 3 rfl ?_
  refine ac 23 hr rfl (fun c13 hr => ?_) (fun c13 hr => ?_)
  ·
   refine rn tk 7 rfl ?_
   cases hr
   exact kr tk (.inr rfl) rfl rfl
  ·
   refine rn tk 5 rfl ?_
   refine awpl_pub (d := 24) (F := cS) (l := b4) rfl rfl (hO ?_)
   obtain ⟨v14, h15, hr⟩ := bind_some hr
   refine cl (strings_Join_run _ _ _ h15) rfl rfl ?_
   refine rn tk 4 rfl ?_
   cases hr
   exact kr tk (.inr rfl) rfl rfl
theorem command_told_run (a0 : Str) (a1 : Bool) (r : Int × Bool) (hr : command_told a0 a1 = some r) : Run Tryz.prog 51 [.s a0, .bo a1] (.tup [.i r.1, .bo r.2]) := by
 unfold command_told at hr
 refine rf (fn := Tryz.f51) ⟨Tryz.func51, rfl, by kernel_rfl⟩ rfl (fun _ => rfl) fun g0 hg => ?_
 refine rn tk 13 rfl ?_
 refine al2 hr (fun s1 => [(0, .s a0), (1, .bo a1), (7, .i s1)]) (fun s1 => []) (.exit 0) (fun b2 => []) (fun b2 => []) .ret (fun b3 => [(4, .i b3.1), (5, .bo b3.2)]) (fun b3 => []) rfl rfl (fun s1 x5 hr => ?_) (fun b2 hr => ?_) (fun b3 hr => ?_)
 ·
  unfold command_told_l1 at hr
  refine rn tk 6 rfl ?_
  refine ac 8 hr rfl (fun c6 hr => ?_) (fun c6 hr => ?_)
  ·
   refine rn tk 10 rfl ?_
   refine jb hr (fun j7 => [(0, .s a0), (1, .bo a1), (6, .i s1), (7, .i s1), (16, .bo j7)]) (fun j7 => []) (fun j7 hr => ?_) (fun j7 hr => ?_)
   ·
    refine rn tk 3 rfl ?_
    refine bs 11 hr rfl (fun c8 hr => ?_) (fun c8 hr => ?_)
    ·
     refine rn tk 1 rfl ?_
     obtain ⟨v9, h10, hr⟩ := bind_some hr
     refine ug rfl rfl rfl ?_
     refine cl (command_notify_run _ _ h10) rfl rfl ?_
     refine rn tk 4 rfl ?_
     cases hr
     exact jn _ rfl rfl rfl
    ·
     refine rn tk 6 rfl ?_
     cases hr
     exact jn _ rfl rfl rfl
   ·
    refine ac 16 hr rfl (fun c11 hr => ?_) (fun c11 hr => ?_)
    ·
     refine rn tk 10 rfl ?_
     cases hr
     exact ato rfl rfl rfl rfl
    ·
     refine rn tk 7 rfl ?_
     cases hr
     exact atc rfl rfl
  ·
   refine rn tk 2 rfl ?_
   cases hr
   exact ato rfl rfl rfl rfl
 ·
  refine rn tk 9 rfl ?_
  cases hr
  exact kr tk (.inr rfl) rfl rfl
 ·
  refine rn tk 2 rfl ?_
  cases hr
  exact kr tk (.inr rfl) rfl rfl
theorem command_read_run (a0 : Int) (a1 : List Str) (r : TCommand × Bool) (hr : command_read a0 a1 = some r) : Run Tryz.prog 32 [.i a0, .l cS a1] (.tup [.agg [.i r.1.Verb, .s r.1.Name, .s r.1.Address, .i r.1.Size, .i r.1.Notify, .bo r.1.Last], .bo r.2]) := by
 unfold command_read at hr
 refine rf (fn := Tryz.f32) ⟨Tryz.func32, rfl, by kernel_rfl⟩ rfl (fun _ => rfl) fun g0 hg => ?_
 refine rn tk 17 rfl ?_
 refine awpl_pubbox 3 (cs := [pL cS a1]) rfl rfl (hO ?_)
 refine rn tk 10 rfl ?_
 refine jk (fun j1 => [(4, .ptr 4 0), (6, .ptr 6 0), (8, .bo j1.1), (9, .bo j1.2.1)]) (fun j1 => [(6, .cells [.i a0, .s j1.2.2.1, .s j1.2.2.2.1, .i j1.2.2.2.2.1, .i j1.2.2.2.2.2.1, .bo j1.2.2.2.2.2.2]), (4, .cells [.i 0, .s (([] : Str)), .s (([] : Str)), .i 0, .i 0, .bo false])]) (fun j1 => command_read_k1 a0 j1 = some r) ?_ ?_
 ·
  refine rn tk 12 rfl ?_
  refine ac 19 hr rfl (fun c4 hr => ?_) (fun c4 hr => ?_)
  ·
   refine rn tk 4 rfl ?_
   refine il (fn := Tryz.f47) (args := [.i 1, .i 1, .ep [pL cS a1]]) 500000 599999 [(3, .ep [pL cS a1]), (4, .ptr 4 0), (6, .ptr 6 0), (8, .bo true), (9, .bo true)] rfl ⟨Tryz.func47, rfl, by kernel_rfl⟩ rfl rfl rfl fun T5 ds5 => ?_
   refine rn tk 5 rfl ?_
   refine jb hr (fun j5 => [(5, .bo j5)]) (fun j5 => [(599999, .sus g0.w.heap.size ds5), (500003, .hold (.ep [pL cS a1]) (T5.getD 3 undef)), (500004, .hold (.ptr 4 0) (T5.getD 4 undef)), (500006, .hold (.ptr 6 0) (T5.getD 6 undef)), (500008, .hold (.bo true) (T5.getD 8 undef)), (500009, .hold (.bo true) (T5.getD 9 undef)), (6, .cells [.i a0, .s (([] : Str)), .s (([] : Str)), .i 0, .i 0, .bo false]), (4, .cells [.i 0, .s (([] : Str)), .s (([] : Str)), .i 0, .i 0, .bo false])]) (fun j5 hr => ?_) (fun j5 hr => ?_)
   ·
    refine rn tk 2 rfl ?_
    refine wn tk rfl rfl rfl ?_
    refine rn tk 3 rfl ?_
    refine bs 10 hr rfl (fun c6 hr => ?_) (fun c6 hr => ?_)
    ·
     refine rn tk 1 rfl ?_
     refine ug rfl rfl rfl ?_
     refine wn tk rfl rfl rfl ?_
     refine rn tk 5 rfl ?_
     cases hr
     exact jn _ rfl rfl rfl
    ·
     refine rn tk 7 rfl ?_
     cases hr
     exact jn _ rfl rfl rfl
   ·
    refine rn tk 1 rfl ?_
    refine ie tk [.bo j5] [(3, .ep [pL cS a1]), (4, .ptr 4 0), (6, .ptr 6 0), (8, .bo true), (9, .bo true)] [(6, .cells [.i a0, .s (([] : Str)), .s (([] : Str)), .i 0, .i 0, .bo false]), (4, .cells [.i 0, .s (([] : Str)), .s (([] : Str)), .i 0, .i 0, .bo false])] (.inr rfl) rfl rfl rfl rfl (hO ?_)
    refine rn tk 3 rfl ?_
    refine ac 23 hr rfl (fun c7 hr => ?_) (fun c7 hr => ?_)
    ·
     refine rn tk 11 rfl ?_
     cases hr
     exact kr tk (.inr rfl) rfl rfl
    ·
     refine rn tk 4 rfl ?_
     obtain ⟨v8, h9, hr⟩ := bind_some hr
     refine wi tk h9 rfl rfl rfl rfl rfl ?_
     refine rn tk 5 rfl ?_
     exact jn ((true, true, v8, ([] : Str), 0, 0, false)) hr rfl rfl
  ·
   refine rn tk 6 rfl ?_
   refine ac 29 hr rfl (fun c10 hr => ?_) (fun c10 hr => ?_)
   ·
    refine rn tk 4 rfl ?_
    refine il (fn := Tryz.f47) (args := [.i 1, .i 2, .ep [pL cS a1]]) 600000 699999 [(3, .ep [pL cS a1]), (4, .ptr 4 0), (6, .ptr 6 0), (9, .bo true)] rfl ⟨Tryz.func47, rfl, by kernel_rfl⟩ rfl rfl rfl fun T6 ds6 => ?_
    refine rn tk 5 rfl ?_
    refine jb hr (fun j11 => [(5, .bo j11)]) (fun j11 => [(699999, .sus g0.w.heap.size ds6), (600003, .hold (.ep [pL cS a1]) (T6.getD 3 undef)), (600004, .hold (.ptr 4 0) (T6.getD 4 undef)), (600006, .hold (.ptr 6 0) (T6.getD 6 undef)), (600009, .hold (.bo true) (T6.getD 9 undef)), (6, .cells [.i a0, .s (([] : Str)), .s (([] : Str)), .i 0, .i 0, .bo false]), (4, .cells [.i 0, .s (([] : Str)), .s (([] : Str)), .i 0, .i 0, .bo false])]) (fun j11 hr => ?_) (fun j11 hr => ?_)
    ·
     refine rn tk 2 rfl ?_
     refine wn tk rfl rfl rfl ?_
     refine rn tk 3 rfl ?_
     refine bs 10 hr rfl (fun c12 hr => ?_) (fun c12 hr => ?_)
     ·
      refine rn tk 1 rfl ?_
      refine ug rfl rfl rfl ?_
      refine wn tk rfl rfl rfl ?_
      refine rn tk 5 rfl ?_
      cases hr
      exact jn _ rfl rfl rfl
     ·
      refine rn tk 7 rfl ?_
      cases hr
      exact jn _ rfl rfl rfl
    ·
     refine rn tk 1 rfl ?_
     refine ie tk [.bo j11] [(3, .ep [pL cS a1]), (4, .ptr 4 0), (6, .ptr 6 0), (9, .bo true)] [(6, .cells [.i a0, .s (([] : Str)), .s (([] : Str)), .i 0, .i 0, .bo false]), (4, .cells [.i 0, .s (([] : Str)), .s (([] : Str)), .i 0, .i 0, .bo false])] (.inr rfl) rfl rfl rfl rfl (hO ?_)
     refine rn tk 3 rfl ?_
     refine ac 33 hr rfl (fun c13 hr => ?_) (fun c13 hr => ?_)
     ·
      refine rn tk 11 rfl ?_
      cases hr
      exact kr tk (.inr rfl) rfl rfl
     ·
      refine rn tk 5 rfl ?_
      obtain ⟨v14, h15, hr⟩ := bind_some hr
      refine wi tk h15 rfl rfl rfl rfl rfl ?_
      refine rn tk 1 rfl ?_
      obtain ⟨v16, h17, hr⟩ := bind_some hr
      refine cl (command_address_run _ _ h17) rfl rfl ?_
      refine rn tk 11 rfl ?_
      refine wn tk rfl rfl rfl ?_
      refine rn tk 3 rfl ?_
      refine ac 45 hr rfl (fun c18 hr => ?_) (fun c18 hr => ?_)
      ·
       refine rn tk 13 rfl ?_
       obtain ⟨v19, h20, hr⟩ := bind_some hr
       refine wlL tk h20 rfl rfl rfl (fun _ => rfl) rfl ?_
       obtain ⟨v21, h22, hr⟩ := bind_some hr
       refine cl (command_option_run _ _ _ h22) rfl rfl ?_
       refine rn tk 10 rfl ?_
       obtain ⟨v23, h24, hr⟩ := bind_some hr
       refine cl (command_number_run _ _ h24) rfl rfl ?_
       refine rn tk 11 rfl ?_
       refine bs 59 hr rfl (fun c25 hr => ?_) (fun c25 hr => ?_)
       ·
        refine rn tk 5 rfl ?_
        exact jn ((v16.2, v21.2, ([] : Str), v16.1, v23.1, 0, false)) hr rfl rfl
       ·
        refine rn tk 5 rfl ?_
        exact jn ((v16.2, false, ([] : Str), v16.1, v23.1, 0, false)) hr rfl rfl
      ·
       refine rn tk 2 rfl ?_
       exact jn ((v16.2, true, ([] : Str), v16.1, 0, 0, false)) hr rfl rfl
   ·
    refine rn tk 6 rfl ?_
    refine ac 62 hr rfl (fun c26 hr => ?_) (fun c26 hr => ?_)
    ·
     refine rn tk 4 rfl ?_
     refine il (fn := Tryz.f47) (args := [.i 1, .i 2, .ep [pL cS a1]]) 700000 799999 [(3, .ep [pL cS a1]), (4, .ptr 4 0), (6, .ptr 6 0), (9, .bo true)] rfl ⟨Tryz.func47, rfl, by kernel_rfl⟩ rfl rfl rfl fun T7 ds7 => ?_
     refine rn tk 5 rfl ?_
     refine jb hr (fun j27 => [(5, .bo j27)]) (fun j27 => [(799999, .sus g0.w.heap.size ds7), (700003, .hold (.ep [pL cS a1]) (T7.getD 3 undef)), (700004, .hold (.ptr 4 0) (T7.getD 4 undef)), (700006, .hold (.ptr 6 0) (T7.getD 6 undef)), (700009, .hold (.bo true) (T7.getD 9 undef)), (6, .cells [.i a0, .s (([] : Str)), .s (([] : Str)), .i 0, .i 0, .bo false]), (4, .cells [.i 0, .s (([] : Str)), .s (([] : Str)), .i 0, .i 0, .bo false])]) (fun j27 hr => ?_) (fun j27 hr => ?_)
     ·
      refine rn tk 2 rfl ?_
      refine wn tk rfl rfl rfl ?_
      refine rn tk 3 rfl ?_
      refine bs 10 hr rfl (fun c28 hr => ?_) (fun c28 hr => ?_)
      ·
       refine rn tk 1 rfl ?_
       refine ug rfl rfl rfl ?_
       refine wn tk rfl rfl rfl ?_
       refine rn tk 5 rfl ?_
       cases hr
       exact jn _ rfl rfl rfl
      ·
       refine rn tk 7 rfl ?_
       cases hr
       exact jn _ rfl rfl rfl
     ·
      refine rn tk 1 rfl ?_
      refine ie tk [.bo j27] [(3, .ep [pL cS a1]), (4, .ptr 4 0), (6, .ptr 6 0), (9, .bo true)] [(6, .cells [.i a0, .s (([] : Str)), .s (([] : Str)), .i 0, .i 0, .bo false]), (4, .cells [.i 0, .s (([] : Str)), .s (([] : Str)), .i 0, .i 0, .bo false])] (.inr rfl) rfl rfl rfl rfl (hO ?_)
      refine rn tk 3 rfl ?_
      refine ac 66 hr rfl (fun c29 hr => ?_) (fun c29 hr => ?_)
      ·
       refine rn tk 11 rfl ?_
       cases hr
       exact kr tk (.inr rfl) rfl rfl
      ·
       refine rn tk 5 rfl ?_
       obtain ⟨v30, h31, hr⟩ := bind_some hr
       refine wi tk h31 rfl rfl rfl rfl rfl ?_
       refine rn tk 1 rfl ?_
       obtain ⟨v32, h33, hr⟩ := bind_some hr
       refine cl (command_address_run _ _ h33) rfl rfl ?_
       refine rn tk 17 rfl ?_
       refine wn tk rfl rfl rfl ?_
       refine rn tk 3 rfl ?_
       refine ac 79 hr rfl (fun c34 hr => ?_) (fun c34 hr => ?_)
       ·
        refine rn tk 2 rfl ?_
        obtain ⟨v35, h36, hr⟩ := bind_some hr
        refine wlL tk h36 rfl rfl rfl (fun _ => rfl) rfl ?_
        obtain ⟨v37, h38, hr⟩ := bind_some hr
        refine cl (command_option_run _ _ _ h38) rfl rfl ?_
        refine rn tk 2 rfl ?_
        obtain ⟨v39, h40, hr⟩ := bind_some hr
        refine cl (command_told_run _ _ _ h40) rfl rfl ?_
        refine rn tk 8 rfl ?_
        exact jn ((v32.2, v39.2, ([] : Str), v32.1, 0, v39.1, false)) hr rfl rfl
       ·
        refine rn tk 2 rfl ?_
        exact jn ((v32.2, true, ([] : Str), v32.1, 0, 1, false)) hr rfl rfl
    ·
     refine rn tk 6 rfl ?_
     refine ac 90 hr rfl (fun c41 hr => ?_) (fun c41 hr => ?_)
     ·
      refine rn tk 4 rfl ?_
      refine il (fn := Tryz.f47) (args := [.i 1, .i 2, .ep [pL cS a1]]) 800000 899999 [(3, .ep [pL cS a1]), (4, .ptr 4 0), (6, .ptr 6 0)] rfl ⟨Tryz.func47, rfl, by kernel_rfl⟩ rfl rfl rfl fun T8 ds8 => ?_
      refine rn tk 5 rfl ?_
      refine jb hr (fun j42 => [(5, .bo j42)]) (fun j42 => [(899999, .sus g0.w.heap.size ds8), (800003, .hold (.ep [pL cS a1]) (T8.getD 3 undef)), (800004, .hold (.ptr 4 0) (T8.getD 4 undef)), (800006, .hold (.ptr 6 0) (T8.getD 6 undef)), (6, .cells [.i a0, .s (([] : Str)), .s (([] : Str)), .i 0, .i 0, .bo false]), (4, .cells [.i 0, .s (([] : Str)), .s (([] : Str)), .i 0, .i 0, .bo false])]) (fun j42 hr => ?_) (fun j42 hr => ?_)
      ·
       refine rn tk 2 rfl ?_
       refine wn tk rfl rfl rfl ?_
       refine rn tk 3 rfl ?_
       refine bs 10 hr rfl (fun c43 hr => ?_) (fun c43 hr => ?_)
       ·
        refine rn tk 1 rfl ?_
        refine ug rfl rfl rfl ?_
        refine wn tk rfl rfl rfl ?_
        refine rn tk 5 rfl ?_
        cases hr
        exact jn _ rfl rfl rfl
       ·
        refine rn tk 7 rfl ?_
        cases hr
        exact jn _ rfl rfl rfl
      ·
       refine rn tk 1 rfl ?_
       refine ie tk [.bo j42] [(3, .ep [pL cS a1]), (4, .ptr 4 0), (6, .ptr 6 0)] [(6, .cells [.i a0, .s (([] : Str)), .s (([] : Str)), .i 0, .i 0, .bo false]), (4, .cells [.i 0, .s (([] : Str)), .s (([] : Str)), .i 0, .i 0, .bo false])] (.inr rfl) rfl rfl rfl rfl (hO ?_)
       refine rn tk 3 rfl ?_
       refine ac 94 hr rfl (fun c44 hr => ?_) (fun c44 hr => ?_)
       ·
        refine rn tk 11 rfl ?_
        cases hr
        exact kr tk (.inr rfl) rfl rfl
       ·
        refine rn tk 5 rfl ?_
        obtain ⟨v45, h46, hr⟩ := bind_some hr
        refine wi tk h46 rfl rfl rfl rfl rfl ?_
        refine rn tk 1 rfl ?_
        obtain ⟨v47, h48, hr⟩ := bind_some hr
        refine cl (command_number_run _ _ h48) rfl rfl ?_
        refine rn tk 11 rfl ?_
        refine wn tk rfl rfl rfl ?_
        refine rn tk 10 rfl ?_
        refine bs 111 hr rfl (fun c49 hr => ?_) (fun c49 hr => ?_)
        ·
         refine rn tk 9 rfl ?_
         exact jn ((v47.2, true, ([] : Str), ([] : Str), v47.1, 0, ((a1.length : Int) == 2))) hr rfl rfl
        ·
         refine rn tk 1 rfl ?_
         obtain ⟨v50, h51, hr⟩ := bind_some hr
         refine ug rfl rfl rfl ?_
         refine wi tk h51 rfl rfl rfl rfl rfl ?_
         refine rn tk 1 rfl ?_
         obtain ⟨v52, h53, hr⟩ := bind_some hr
         refine ug rfl rfl rfl ?_
         refine cl (basic_Lower_run _ _ h53) rfl rfl ?_
         refine rn tk 5 rfl ?_
         exact jn ((v47.2, (v52 == ([108, 97, 115, 116] : Str)), ([] : Str), ([] : Str), v47.1, 0, ((a1.length : Int) == 2))) hr rfl rfl
     ·
      refine rn tk 1 rfl ?_
      obtain ⟨v54, h55, hr⟩ := bind_some hr
      refine dr 3 [(18, .bo v54), (17, .fn (.func 47) [] [.ep [pL cS a1]]), (16, .agg [.i a0, .s (([] : Str)), .s (([] : Str)), .i 0, .i 0, .bo false])] mixed (by kernel_rfl) rfl rfl (pq tk rfl (.plain rfl) (pq tk rfl (.plain rfl) (.run (.plain rfl) (opG_callV rfl (command_read_1_run 0 0 a1 v54 h55) rfl) .nil))) rfl ?_
      refine rn tk 7 rfl ?_
      cases hr
      exact kr tk (.inr rfl) rfl rfl
 ·
  intro j1 hr
  unfold command_read_k1 at hr
  refine jb hr (fun j2 => [(4, .ptr 4 0), (5, .bo j2)]) (fun j2 => [(4, .cells [.i a0, .s j1.2.2.1, .s j1.2.2.2.1, .i j1.2.2.2.2.1, .i j1.2.2.2.2.2.1, .bo j1.2.2.2.2.2.2])]) (fun j2 hr => ?_) (fun j2 hr => ?_)
  ·
   refine rn tk 4 rfl ?_
   refine bs 120 hr rfl (fun c3 hr => ?_) (fun c3 hr => ?_)
   ·
    refine rn tk 5 rfl ?_
    cases hr
    exact jn _ rfl rfl rfl
   ·
    refine rn tk 5 rfl ?_
    cases hr
    exact jn _ rfl rfl rfl
  ·
   refine rn tk 1 rfl ?_
   cases hr
   exact kr tk (.inr rfl) rfl rfl
theorem command_words_run  (r : Str × Str × Str × Str × Str × Str × Str × Str) (hr : command_words = some r) : Run Tryz.prog 17 [] (.agg [.s r.1, .s r.2.1, .s r.2.2.1, .s r.2.2.2.1, .s r.2.2.2.2.1, .s r.2.2.2.2.2.1, .s r.2.2.2.2.2.2.1, .s r.2.2.2.2.2.2.2]) := by
 unfold command_words at hr
 refine rf (fn := Tryz.f17) ⟨Tryz.func17, rfl, by kernel_rfl⟩ rfl (fun _ => rfl) fun g0 hg => ?_
 refine rn tk 7 rfl ?_
 refine wq (ev_buildA (cs := [.s (([104, 101, 108, 108, 111] : Str)), .s (([109, 97, 105, 108] : Str)), .s (([114, 99, 112, 116] : Str)), .s (([100, 97, 116, 97] : Str)), .s (([99, 104, 117, 110, 107] : Str)), .s (([114, 101, 115, 101, 116] : Str)), .s (([110, 111, 111, 112] : Str)), .s (([113, 117, 105, 116] : Str))]) ty__8_string ty_string (.inr ⟨rfl, rfl⟩) (by kernel_rfl)) rfl rfl rfl ?_
 refine rn tk 4 rfl ?_
 cases hr
 exact kr tk (.inr rfl) rfl rfl
theorem command_Parse_run (a0 : Str) (r : TCommand × TFault) (hr : command_Parse a0 = some r) : Run Tryz.prog 10 [.s a0] (.tup [.agg [.i r.1.Verb, .s r.1.Name, .s r.1.Address, .i r.1.Size, .i r.1.Notify, .bo r.1.Last], .agg [.i r.2.Code, .i r.2.Index]]) := by
 unfold command_Parse at hr
 refine rf (fn := Tryz.f10) ⟨Tryz.func10, rfl, by kernel_rfl⟩ rfl (fun _ => rfl) fun g0 hg => ?_
 refine rn tk 14 rfl ?_
 refine ac 13 hr rfl (fun c1 hr => ?_) (fun c1 hr => ?_)
 ·
  refine rn tk 3 rfl ?_
  obtain ⟨v2, h3, hr⟩ := bind_some hr
  refine cl (basic_Fault_run _ _ _ h3) rfl rfl ?_
  refine rn tk 6 rfl ?_
  cases hr
  exact kr tk (.inr rfl) rfl rfl
 ·
  refine rn tk 5 rfl ?_
  obtain ⟨v4, h5, hr⟩ := bind_some hr
  refine cl (strings_FieldsFunc_sp_run _ _ h5) rfl rfl ?_
  refine rn tk 11 rfl ?_
  obtain ⟨v6, h7, hr⟩ := bind_some hr
  refine cl (command_words_run _ h7) rfl rfl ?_
  refine rn tk 4 rfl ?_
  refine al1 hr (fun s8 => [(2, .ptr 2 0), (3, .ptr 3 0), (4, .l cS v4), (5, .i s8.1), (18, .agg [.s v6.1, .s v6.2.1, .s v6.2.2.1, .s v6.2.2.2.1, .s v6.2.2.2.2.1, .s v6.2.2.2.2.2.1, .s v6.2.2.2.2.2.2.1, .s v6.2.2.2.2.2.2.2]), (19, .i s8.2)]) (fun s8 => [(3, .cells [.i 0, .i 0]), (2, .cells [.i 0, .s (([] : Str)), .s (([] : Str)), .i 0, .i 0, .bo false])]) (.exit 0) (fun b9 => [(2, .ptr 2 0), (3, .ptr 3 0), (4, .l cS v4), (5, .i b9)]) (fun b9 => [(3, .cells [.i 0, .i 0]), (2, .cells [.i 0, .s (([] : Str)), .s (([] : Str)), .i 0, .i 0, .bo false])]) rfl rfl (fun s8 x10 hr => ?_) (fun b9 hr => ?_)
  ·
   unfold command_Parse_l1 at hr
   refine rn tk 6 rfl ?_
   refine ac 20 hr rfl (fun c11 hr => ?_) (fun c11 hr => ?_)
   ·
    refine rn tk 2 rfl ?_
    refine jb hr (fun j12 => [(2, .ptr 2 0), (3, .ptr 3 0), (4, .l cS v4), (5, .i j12), (18, .agg [.s v6.1, .s v6.2.1, .s v6.2.2.1, .s v6.2.2.2.1, .s v6.2.2.2.2.1, .s v6.2.2.2.2.2.1, .s v6.2.2.2.2.2.2.1, .s v6.2.2.2.2.2.2.2]), (19, .i s8.2)]) (fun j12 => [(3, .cells [.i 0, .i 0]), (2, .cells [.i 0, .s (([] : Str)), .s (([] : Str)), .i 0, .i 0, .bo false])]) (fun j12 hr => ?_) (fun j12 hr => ?_)
    ·
     refine rn tk 4 rfl ?_
     obtain ⟨v13, h14, hr⟩ := bind_some hr
     refine wq (ev_aidx (f := cS) (L := ([v6.1, v6.2.1, v6.2.2.1, v6.2.2.2.1, v6.2.2.2.2.1, v6.2.2.2.2.2.1, v6.2.2.2.2.2.2.1, v6.2.2.2.2.2.2.2] : List Str)) rfl rfl ty__8_string ty_string rfl rfl (fun _ => rfl) h14 rfl) rfl rfl rfl ?_
     refine rn tk 4 rfl ?_
     refine jb hr (fun j15 => [(2, .ptr 2 0), (3, .ptr 3 0), (4, .l cS v4), (5, .i s8.1), (6, .i s8.2), (18, .agg [.s v6.1, .s v6.2.1, .s v6.2.2.1, .s v6.2.2.2.1, .s v6.2.2.2.2.1, .s v6.2.2.2.2.2.1, .s v6.2.2.2.2.2.2.1, .s v6.2.2.2.2.2.2.2]), (19, .i s8.2), (33, .bo j15)]) (fun j15 => [(3, .cells [.i 0, .i 0]), (2, .cells [.i 0, .s (([] : Str)), .s (([] : Str)), .i 0, .i 0, .bo false])]) (fun j15 hr => ?_) (fun j15 hr => ?_)
     ·
      refine rn tk 2 rfl ?_
      refine wn tk rfl rfl rfl ?_
      refine rn tk 2 rfl ?_
      refine bs 26 hr rfl (fun c16 hr => ?_) (fun c16 hr => ?_)
      ·
       refine rn tk 1 rfl ?_
       obtain ⟨v17, h18, hr⟩ := bind_some hr
       refine ug rfl rfl rfl ?_
       refine wi tk h18 rfl rfl rfl rfl rfl ?_
       refine rn tk 1 rfl ?_
       obtain ⟨v19, h20, hr⟩ := bind_some hr
       refine ug rfl rfl rfl ?_
       refine cl (basic_Lower_run _ _ h20) rfl rfl ?_
       refine rn tk 4 rfl ?_
       cases hr
       exact jn _ rfl rfl rfl
      ·
       refine rn tk 8 rfl ?_
       cases hr
       exact jn _ rfl rfl rfl
     ·
      refine ac 33 hr rfl (fun c21 hr => ?_) (fun c21 hr => ?_)
      ·
       refine rn tk 6 rfl ?_
       cases hr
       exact jn _ rfl rfl rfl
      ·
       refine rn tk 2 rfl ?_
       cases hr
       exact jn _ rfl rfl rfl
    ·
     refine rn tk 4 rfl ?_
     cases hr
     exact atc rfl rfl
   ·
    refine rn tk 2 rfl ?_
    cases hr
    exact ato rfl rfl rfl rfl
  ·
   refine rn tk 9 rfl ?_
   refine ac 38 hr rfl (fun c22 hr => ?_) (fun c22 hr => ?_)
   ·
    refine rn tk 3 rfl ?_
    obtain ⟨v23, h24, hr⟩ := bind_some hr
    refine cl (basic_Fault_run _ _ _ h24) rfl rfl ?_
    refine rn tk 6 rfl ?_
    cases hr
    exact kr tk (.inr rfl) rfl rfl
   ·
    refine rn tk 6 rfl ?_
    obtain ⟨v25, h26, hr⟩ := bind_some hr
    refine wlL tk h26 rfl rfl rfl (fun _ => rfl) rfl ?_
    obtain ⟨v27, h28, hr⟩ := bind_some hr
    refine cl (command_read_run _ _ _ h28) rfl rfl ?_
    refine rn tk 15 rfl ?_
    refine ac 49 hr rfl (fun c29 hr => ?_) (fun c29 hr => ?_)
    ·
     refine rn tk 3 rfl ?_
     obtain ⟨v30, h31, hr⟩ := bind_some hr
     refine cl (basic_Fault_run _ _ _ h31) rfl rfl ?_
     refine rn tk 6 rfl ?_
     cases hr
     exact kr tk (.inr rfl) rfl rfl
    ·
     refine rn tk 6 rfl ?_
     obtain ⟨v32, h33, hr⟩ := bind_some hr
     refine cl (command_Validate_run _ _ h33) rfl rfl ?_
     refine rn tk 7 rfl ?_
     obtain ⟨v34, h35, hr⟩ := bind_some hr
     refine cl (basic_Failed_run _ _ h35) rfl rfl ?_
     refine rn tk 2 rfl ?_
     refine ac 55 hr rfl (fun c36 hr => ?_) (fun c36 hr => ?_)
     ·
      refine rn tk 1 rfl ?_
      refine drX 2 3 3 3 [1] [(57, .agg [.i v32.Code, .i v32.Index]), (56, .agg [.i 0, .s (([] : Str)), .s (([] : Str)), .i 0, .i 0, .bo false])] [(2, .ptr 2 0), (3, .ptr 3 0), (57, .agg [.i v32.Code, .i v32.Index])] [(10, .cells [.i v32.Code, .i v32.Index]), (8, .cells [.i v27.1.Verb, .s v27.1.Name, .s v27.1.Address, .i v27.1.Size, .i v27.1.Notify, .bo v27.1.Last]), (3, .cells [.i 0, .i 0]), (2, .cells [.i 0, .s (([] : Str)), .s (([] : Str)), .i 0, .i 0, .bo false])] tk mixed (by kernel_rfl) rfl rfl rfl (pqX tk rfl (.plain rfl) (pqX tk rfl (.plain rfl) .nil)) rfl rfl rfl rfl (by kernel_rfl) ?_
      refine rn tk 5 rfl ?_
      cases hr
      exact kr tk (.inr rfl) rfl rfl
     ·
      refine rn tk 3 rfl ?_
      obtain ⟨v37, h38, hr⟩ := bind_some hr
      refine dr 2 [(59, .agg [.i v37.Code, .i v37.Index]), (58, .agg [.i v27.1.Verb, .s v27.1.Name, .s v27.1.Address, .i v27.1.Size, .i v27.1.Notify, .bo v27.1.Last])] mixed (by kernel_rfl) rfl rfl (pq tk rfl (.plain rfl) (.run (.plain rfl) (opG_call (basic_None_run  v37 h38) rfl) .nil)) rfl ?_
      refine rn tk 5 rfl ?_
      cases hr
      exact kr tk (.inr rfl) rfl rfl
theorem command_Print_run (a0 : TCommand) (r : Str × TFault) (hr : command_Print a0 = some r) : Run Tryz.prog 6 [.agg [.i a0.Verb, .s a0.Name, .s a0.Address, .i a0.Size, .i a0.Notify, .bo a0.Last]] (.tup [.s r.1, .agg [.i r.2.Code, .i r.2.Index]]) := by
 unfold command_Print at hr
 refine rf (fn := Tryz.f6) ⟨Tryz.func6, rfl, by kernel_rfl⟩ rfl (fun _ => rfl) fun g0 hg => ?_
 refine rn tk 11 rfl ?_
 obtain ⟨v1, h2, hr⟩ := bind_some hr
 refine cl (command_Validate_run _ _ h2) rfl rfl ?_
 refine rn tk 7 rfl ?_
 obtain ⟨v3, h4, hr⟩ := bind_some hr
 refine cl (basic_Failed_run _ _ h4) rfl rfl ?_
 refine rn tk 2 rfl ?_
 refine ac 9 hr rfl (fun c5 hr => ?_) (fun c5 hr => ?_)
 ·
  refine rn tk 1 rfl ?_
  refine dr 2 [(2, .s (([] : Str))), (10, .agg [.i v1.Code, .i v1.Index])] mixed (by kernel_rfl) rfl rfl (pq tk rfl (.plain rfl) (pq tk rfl (.plain rfl) .nil)) rfl ?_
  refine rn tk 5 rfl ?_
  cases hr
  exact kr tk (.inr rfl) rfl rfl
 ·
  refine rn tk 3 rfl ?_
  obtain ⟨v6, h7, hr⟩ := bind_some hr
  refine dr 4 [(14, .i ((w64 (a0.Verb - 1)))), (13, .i a0.Verb), (12, .ptr 1 0), (11, .agg [.s v6.1, .s v6.2.1, .s v6.2.2.1, .s v6.2.2.2.1, .s v6.2.2.2.2.1, .s v6.2.2.2.2.2.1, .s v6.2.2.2.2.2.2.1, .s v6.2.2.2.2.2.2.2])] mixed (by kernel_rfl) rfl rfl (.run (.plain rfl) (opG_call (command_words_run  v6 h7) rfl) (pq tk rfl (.plain rfl) (pq tk rfl (.plain rfl) (pq tk rfl (.plain rfl) .nil)))) rfl ?_
  obtain ⟨v8, h9, hr⟩ := bind_some hr
  refine wq (ev_aidx (f := cS) (L := ([v6.1, v6.2.1, v6.2.2.1, v6.2.2.2.1, v6.2.2.2.2.1, v6.2.2.2.2.2.1, v6.2.2.2.2.2.2.1, v6.2.2.2.2.2.2.2] : List Str)) rfl rfl ty__8_string ty_string rfl rfl (fun _ => rfl) h9 rfl) rfl rfl rfl ?_
  refine rn tk 3 rfl ?_
  refine jb hr (fun j10 => [(3, .ptr 3 0), (5, .s j10)]) (fun j10 => [(3, .cells [.i 0, .i 0])]) (fun j10 hr => ?_) (fun j10 hr => ?_)
  ·
   refine rn tk 13 rfl ?_
   refine ac 18 hr rfl (fun c11 hr => ?_) (fun c11 hr => ?_)
   ·
    refine rn tk 4 rfl ?_
    obtain ⟨v12, h13, hr⟩ := bind_some hr
    refine wc h13 rfl rfl rfl ?_
    obtain ⟨v14, h15, hr⟩ := bind_some hr
    refine wc h15 rfl rfl rfl ?_
    refine rn tk 3 rfl ?_
    cases hr
    exact jn _ rfl rfl rfl
   ·
    refine rn tk 6 rfl ?_
    refine ac 25 hr rfl (fun c16 hr => ?_) (fun c16 hr => ?_)
    ·
     refine rn tk 5 rfl ?_
     obtain ⟨v17, h18, hr⟩ := bind_some hr
     refine wc h18 rfl rfl rfl ?_
     obtain ⟨v19, h20, hr⟩ := bind_some hr
     refine wc h20 rfl rfl rfl ?_
     obtain ⟨v21, h22, hr⟩ := bind_some hr
     refine wc h22 rfl rfl rfl ?_
     refine rn tk 10 rfl ?_
     refine ac 35 hr rfl (fun c23 hr => ?_) (fun c23 hr => ?_)
     ·
      refine rn tk 4 rfl ?_
      obtain ⟨v24, h25, hr⟩ := bind_some hr
      refine cl (strconv_Itoa_run _ _ h25) rfl rfl ?_
      obtain ⟨v26, h27, hr⟩ := bind_some hr
      refine wc h27 rfl rfl rfl ?_
      obtain ⟨v28, h29, hr⟩ := bind_some hr
      refine wc h29 rfl rfl rfl ?_
      refine rn tk 3 rfl ?_
      cases hr
      exact jn _ rfl rfl rfl
     ·
      refine rn tk 2 rfl ?_
      cases hr
      exact jn _ rfl rfl rfl
    ·
     refine rn tk 6 rfl ?_
     refine ac 42 hr rfl (fun c30 hr => ?_) (fun c30 hr => ?_)
     ·
      refine rn tk 5 rfl ?_
      obtain ⟨v31, h32, hr⟩ := bind_some hr
      refine wc h32 rfl rfl rfl ?_
      obtain ⟨v33, h34, hr⟩ := bind_some hr
      refine wc h34 rfl rfl rfl ?_
      obtain ⟨v35, h36, hr⟩ := bind_some hr
      refine wc h36 rfl rfl rfl ?_
      refine rn tk 10 rfl ?_
      refine ac 52 hr rfl (fun c37 hr => ?_) (fun c37 hr => ?_)
      ·
       refine rn tk 4 rfl ?_
       obtain ⟨v38, h39, hr⟩ := bind_some hr
       refine cl (command_notify_run _ _ h39) rfl rfl ?_
       obtain ⟨v40, h41, hr⟩ := bind_some hr
       refine wc h41 rfl rfl rfl ?_
       obtain ⟨v42, h43, hr⟩ := bind_some hr
       refine wc h43 rfl rfl rfl ?_
       refine rn tk 3 rfl ?_
       cases hr
       exact jn _ rfl rfl rfl
      ·
       refine rn tk 2 rfl ?_
       cases hr
       exact jn _ rfl rfl rfl
     ·
      refine rn tk 6 rfl ?_
      refine ac 59 hr rfl (fun c44 hr => ?_) (fun c44 hr => ?_)
      ·
       refine rn tk 5 rfl ?_
       obtain ⟨v45, h46, hr⟩ := bind_some hr
       refine cl (strconv_Itoa_run _ _ h46) rfl rfl ?_
       obtain ⟨v47, h48, hr⟩ := bind_some hr
       refine wc h48 rfl rfl rfl ?_
       obtain ⟨v49, h50, hr⟩ := bind_some hr
       refine wc h50 rfl rfl rfl ?_
       refine rn tk 9 rfl ?_
       refine ac 68 hr rfl (fun c51 hr => ?_) (fun c51 hr => ?_)
       ·
        refine rn tk 2 rfl ?_
        obtain ⟨v52, h53, hr⟩ := bind_some hr
        refine wc h53 rfl rfl rfl ?_
        refine rn tk 3 rfl ?_
        cases hr
        exact jn _ rfl rfl rfl
       ·
        refine rn tk 2 rfl ?_
        cases hr
        exact jn _ rfl rfl rfl
      ·
       refine rn tk 2 rfl ?_
       cases hr
       exact jn _ rfl rfl rfl
  ·
   refine rn tk 3 rfl ?_
   obtain ⟨v54, h55, hr⟩ := bind_some hr
   refine cl (basic_None_run _ h55) rfl rfl ?_
   refine rn tk 5 rfl ?_
   cases hr
   exact kr tk (.inr rfl) rfl rfl
theorem L_commands_run  (r : Bool) (hr : L_commands = some r) : Run Tryz.prog 8 [] (.bo r) := by
 unfold L_commands at hr
 refine rf (fn := Tryz.f8) ⟨Tryz.func8, rfl, by kernel_rfl⟩ rfl (fun _ => rfl) fun g0 hg => ?_
 refine rn tk 7 rfl ?_
 obtain ⟨v1, h2, hr⟩ := bind_some hr
 refine cl (command_Parse_run _ _ h2) rfl rfl ?_
 refine rn tk 12 rfl ?_
 obtain ⟨v3, h4, hr⟩ := bind_some hr
 refine cl (command_Print_run _ _ h4) rfl rfl ?_
 refine rn tk 10 rfl ?_
 obtain ⟨v5, h6, hr⟩ := bind_some hr
 refine cl (command_Parse_run _ _ h6) rfl rfl ?_
 refine rn tk 9 rfl ?_
 refine jb hr (fun j7 => [(0, .bo j7)]) (fun j7 => []) (fun j7 hr => ?_) (fun j7 hr => ?_)
 ·
  refine bool_split ((v1.2.Code == 0)) (fun c8 => ?_) (fun c8 => ?_)
  ·
   replace hr := cond_t c8 hr
   refine bool_split ((v3.2.Code == 0)) (fun c9 => ?_) (fun c9 => ?_)
   ·
    replace hr := cond_t c9 hr
    obtain ⟨v10, h11, hr⟩ := bind_some hr
    refine bool_split ((allEq [(v5.2.Code == v10.Code), (v5.2.Index == v10.Index)])) (fun c12 => ?_) (fun c12 => ?_)
    ·
     replace hr := cond_t c12 hr
     refine dr 16 [(35, .agg [.i 2, .s (([] : Str)), .s (([97, 64, 98] : Str)), .i 10, .i 0, .bo false]), (34, .agg [.i v1.1.Verb, .s v1.1.Name, .s v1.1.Address, .i v1.1.Size, .i v1.1.Notify, .bo v1.1.Last]), (33, .bo ((allEq [(v5.2.Code == v10.Code), (v5.2.Index == v10.Index)]))), (32, .bo ((allEq [(v5.2.Code == v10.Code), (v5.2.Index == v10.Index)]))), (31, .bo ((allEq [(v5.2.Code == v10.Code), (v5.2.Index == v10.Index)]))), (30, .agg [.i v10.Code, .i v10.Index]), (29, .agg [.i v5.2.Code, .i v5.2.Index]), (28, .bo ((v3.2.Code == 0))), (27, .bo ((v3.2.Code == 0))), (26, .bo ((v3.2.Code == 0))), (25, .i v3.2.Code), (24, .ptr 4 0), (23, .bo ((v1.2.Code == 0))), (22, .bo ((v1.2.Code == 0))), (21, .i v1.2.Code), (20, .ptr 2 0)] mixed (by kernel_rfl) rfl rfl (pq tk rfl (.plain rfl) (pq tk rfl (.plain rfl) (pq tk rfl (.plain rfl) (pq tk rfl (.plain rfl) (pq tk rfl (.yes (d := 23) rfl rfl rfl c8) (pq tk rfl (.yes (d := 23) rfl rfl rfl c8) (pq tk rfl (.yes (d := 23) rfl rfl rfl c8) (.run (.plain rfl) (opG_q (ev_pick_t rfl c8)) (pq tk rfl (.plain rfl) (pq tk rfl (.yes (d := 28) rfl rfl rfl c9) (.run (.yes (d := 28) rfl rfl rfl c9) (opG_call (R_At_run 11 ((-3)) v10 h11) rfl) (.run (.yes (d := 28) rfl rfl rfl c9) (opG_q (ev_structeq rfl rfl ty_api_Fault cmp_api_Fault (.int rfl (by decide) ty_int (.int rfl (by decide) ty_int .nil)))) (.run (.plain rfl) (opG_q (ev_pick_t rfl c9)) (pq tk rfl (.plain rfl) (pq tk rfl (.yes (d := 33) rfl rfl rfl c12) (pq tk rfl (.yes (d := 33) rfl rfl rfl c12) .nil)))))))))))))))) rfl ?_
     refine kn 33 c12 rfl ?_
     refine ug rfl rfl rfl ?_
     refine wq (ev_structeq rfl rfl ty_api_Command cmp_api_Command (.int rfl (by decide) ty_int (.str rfl (by decide) ty_string (.str rfl (by decide) ty_string (.int rfl (by decide) ty_int (.int rfl (by decide) ty_int (.bool rfl (by decide) ty_bool .nil))))))) rfl rfl rfl ?_
     refine rn tk 2 rfl ?_
     refine bs 38 hr rfl (fun c13 hr => ?_) (fun c13 hr => ?_)
     ·
      refine rn tk 4 rfl ?_
      refine bs 42 hr rfl (fun c14 hr => ?_) (fun c14 hr => ?_)
      ·
       refine rn tk 1 rfl ?_
       obtain ⟨v15, h16, hr⟩ := bind_some hr
       refine ug rfl rfl rfl ?_
       refine cl (command_Validate_run _ _ h16) rfl rfl ?_
       obtain ⟨v17, h18, hr⟩ := bind_some hr
       refine ug rfl rfl rfl ?_
       refine cl (R_At_run _ _ _ h18) rfl rfl ?_
       refine ug rfl rfl rfl ?_
       refine wq (ev_structeq rfl rfl ty_api_Fault cmp_api_Fault (.int rfl (by decide) ty_int (.int rfl (by decide) ty_int .nil))) rfl rfl rfl ?_
       refine rn tk 3 rfl ?_
       cases hr
       exact jn _ rfl rfl rfl
      ·
       refine rn tk 7 rfl ?_
       cases hr
       exact jn _ rfl rfl rfl
     ·
      refine rn tk 11 rfl ?_
      cases hr
      exact jn _ rfl rfl rfl
    ·
     replace hr := cond_f c12 hr
     refine dr 16 [(35, .tup []), (34, .tup []), (33, .bo ((allEq [(v5.2.Code == v10.Code), (v5.2.Index == v10.Index)]))), (32, .bo ((allEq [(v5.2.Code == v10.Code), (v5.2.Index == v10.Index)]))), (31, .bo ((allEq [(v5.2.Code == v10.Code), (v5.2.Index == v10.Index)]))), (30, .agg [.i v10.Code, .i v10.Index]), (29, .agg [.i v5.2.Code, .i v5.2.Index]), (28, .bo ((v3.2.Code == 0))), (27, .bo ((v3.2.Code == 0))), (26, .bo ((v3.2.Code == 0))), (25, .i v3.2.Code), (24, .ptr 4 0), (23, .bo ((v1.2.Code == 0))), (22, .bo ((v1.2.Code == 0))), (21, .i v1.2.Code), (20, .ptr 2 0)] mixed (by kernel_rfl) rfl rfl (pq tk rfl (.plain rfl) (pq tk rfl (.plain rfl) (pq tk rfl (.plain rfl) (pq tk rfl (.plain rfl) (pq tk rfl (.yes (d := 23) rfl rfl rfl c8) (pq tk rfl (.yes (d := 23) rfl rfl rfl c8) (pq tk rfl (.yes (d := 23) rfl rfl rfl c8) (.run (.plain rfl) (opG_q (ev_pick_t rfl c8)) (pq tk rfl (.plain rfl) (pq tk rfl (.yes (d := 28) rfl rfl rfl c9) (.run (.yes (d := 28) rfl rfl rfl c9) (opG_call (R_At_run 11 ((-3)) v10 h11) rfl) (.run (.yes (d := 28) rfl rfl rfl c9) (opG_q (ev_structeq rfl rfl ty_api_Fault cmp_api_Fault (.int rfl (by decide) ty_int (.int rfl (by decide) ty_int .nil)))) (.run (.plain rfl) (opG_q (ev_pick_t rfl c9)) (pq tk rfl (.plain rfl) (.skip (.no (d := 33) rfl rfl rfl c12) (.skip (.no (d := 33) rfl rfl rfl c12) .nil)))))))))))))))) rfl ?_
     refine kn 33 c12 rfl ?_
     refine rn tk 14 rfl ?_
     cases hr
     exact jn _ rfl rfl rfl
   ·
    replace hr := cond_f c9 hr
    refine dr 16 [(35, .tup []), (34, .tup []), (33, .bo false), (32, .bo false), (31, .tup []), (30, .tup []), (29, .tup []), (28, .bo ((v3.2.Code == 0))), (27, .bo ((v3.2.Code == 0))), (26, .bo ((v3.2.Code == 0))), (25, .i v3.2.Code), (24, .ptr 4 0), (23, .bo ((v1.2.Code == 0))), (22, .bo ((v1.2.Code == 0))), (21, .i v1.2.Code), (20, .ptr 2 0)] mixed (by kernel_rfl) rfl rfl (pq tk rfl (.plain rfl) (pq tk rfl (.plain rfl) (pq tk rfl (.plain rfl) (pq tk rfl (.plain rfl) (pq tk rfl (.yes (d := 23) rfl rfl rfl c8) (pq tk rfl (.yes (d := 23) rfl rfl rfl c8) (pq tk rfl (.yes (d := 23) rfl rfl rfl c8) (.run (.plain rfl) (opG_q (ev_pick_t rfl c8)) (pq tk rfl (.plain rfl) (.skip (.no (d := 28) rfl rfl rfl c9) (.skip (.no (d := 28) rfl rfl rfl c9) (.skip (.no (d := 28) rfl rfl rfl c9) (.run (.plain rfl) (opG_q (ev_pick_f rfl c9)) (pq tk rfl (.plain rfl) (.skip (.no (d := 33) rfl rfl rfl rfl) (.skip (.no (d := 33) rfl rfl rfl rfl) .nil)))))))))))))))) rfl ?_
    refine rn tk 14 rfl ?_
    cases hr
    exact jn _ rfl rfl rfl
  ·
   replace hr := cond_f c8 hr
   refine dr 16 [(35, .tup []), (34, .tup []), (33, .bo false), (32, .bo false), (31, .tup []), (30, .tup []), (29, .tup []), (28, .bo false), (27, .bo false), (26, .tup []), (25, .tup []), (24, .tup []), (23, .bo ((v1.2.Code == 0))), (22, .bo ((v1.2.Code == 0))), (21, .i v1.2.Code), (20, .ptr 2 0)] mixed (by kernel_rfl) rfl rfl (pq tk rfl (.plain rfl) (pq tk rfl (.plain rfl) (pq tk rfl (.plain rfl) (pq tk rfl (.plain rfl) (.skip (.no (d := 23) rfl rfl rfl c8) (.skip (.no (d := 23) rfl rfl rfl c8) (.skip (.no (d := 23) rfl rfl rfl c8) (.run (.plain rfl) (opG_q (ev_pick_f rfl c8)) (pq tk rfl (.plain rfl) (.skip (.no (d := 28) rfl rfl rfl rfl) (.skip (.no (d := 28) rfl rfl rfl rfl) (.skip (.no (d := 28) rfl rfl rfl rfl) (pq tk rfl (.plain rfl) (pq tk rfl (.plain rfl) (.skip (.no (d := 33) rfl rfl rfl rfl) (.skip (.no (d := 33) rfl rfl rfl rfl) .nil)))))))))))))))) rfl ?_
   refine rn tk 14 rfl ?_
   cases hr
   exact jn _ rfl rfl rfl
 ·
  refine rn tk 1 rfl ?_
  cases hr
  exact kr tk (.inr rfl) rfl rfl
theorem R_In_run (a0 : Int) (a1 : Int) (a2 : Int) (r : Bool) (hr : R_In a0 a1 a2 = some r) : Run Tryz.prog 12 [.i a0, .i a1, .i a2] (.bo r) := by
 unfold R_In at hr
 refine rf (fn := Tryz.f12) ⟨Tryz.func12, rfl, by kernel_rfl⟩ rfl (fun _ => rfl) fun g0 hg => ?_
 refine rn tk 5 rfl ?_
 refine jb hr (fun j1 => [(6, .bo j1)]) (fun j1 => []) (fun j1 hr => ?_) (fun j1 hr => ?_)
 ·
  refine rn tk 5 rfl ?_
  refine bs 10 hr rfl (fun c2 hr => ?_) (fun c2 hr => ?_)
  ·
   refine rn tk 6 rfl ?_
   cases hr
   exact jn _ rfl rfl rfl
  ·
   refine rn tk 6 rfl ?_
   cases hr
   exact jn _ rfl rfl rfl
 ·
  refine rn tk 1 rfl ?_
  cases hr
  exact kr tk (.inr rfl) rfl rfl
theorem R_DomainOk_run (a0 : Str) (r : Bool) (hr : R_DomainOk a0 = some r) : Run Tryz.prog 39 [.s a0] (.bo r) := by
 unfold R_DomainOk at hr
 refine rf (fn := Tryz.f39) ⟨Tryz.func39, rfl, by kernel_rfl⟩ rfl (fun _ => rfl) fun g0 hg => ?_
 refine rn tk 12 rfl ?_
 refine al2 hr (fun s1 => [(0, .s a0), (3, .i s1)]) (fun s1 => []) (.exit 0) (fun b2 => [(0, .s a0)]) (fun b2 => []) .ret (fun b3 => [(2, .bo b3)]) (fun b3 => []) rfl rfl (fun s1 x5 hr => ?_) (fun b2 hr => ?_) (fun b3 hr => ?_)
 ·
  unfold R_DomainOk_l1 at hr
  refine rn tk 9 rfl ?_
  refine ac 8 hr rfl (fun c6 hr => ?_) (fun c6 hr => ?_)
  ·
   refine rn tk 8 rfl ?_
   obtain ⟨v7, h8, hr⟩ := bind_some hr
   refine ws tk h8 rfl rfl rfl rfl ?_
   refine wu tk rfl rfl rfl ?_
   refine rn tk 4 rfl ?_
   refine jb hr (fun j9 => [(0, .s a0), (3, .i s1), (4, .i ((v7.toNat : Int))), (36, .bo j9)]) (fun j9 => []) (fun j9 hr => ?_) (fun j9 hr => ?_)
   ·
    refine rn tk 3 rfl ?_
    obtain ⟨v10, h11, hr⟩ := bind_some hr
    refine ws tk h11 rfl rfl rfl rfl ?_
    refine rn tk 2 rfl ?_
    refine bs 19 hr rfl (fun c12 hr => ?_) (fun c12 hr => ?_)
    ·
     refine rn tk 3 rfl ?_
     refine bs 22 hr rfl (fun c13 hr => ?_) (fun c13 hr => ?_)
     ·
      refine rn tk 15 rfl ?_
      cases hr
      exact jn _ rfl rfl rfl
     ·
      refine rn tk 7 rfl ?_
      refine bs 29 hr rfl (fun c14 hr => ?_) (fun c14 hr => ?_)
      ·
       refine rn tk 8 rfl ?_
       cases hr
       exact jn _ rfl rfl rfl
      ·
       refine rn tk 3 rfl ?_
       obtain ⟨v15, h16, hr⟩ := bind_some hr
       refine ug rfl rfl rfl ?_
       refine ws tk h16 rfl rfl rfl rfl ?_
       refine rn tk 4 rfl ?_
       cases hr
       exact jn _ rfl rfl rfl
    ·
     refine rn tk 18 rfl ?_
     cases hr
     exact jn _ rfl rfl rfl
   ·
    refine ac 36 hr rfl (fun c17 hr => ?_) (fun c17 hr => ?_)
    ·
     refine rn tk 9 rfl ?_
     cases hr
     exact ato rfl rfl rfl rfl
    ·
     refine rn tk 2 rfl ?_
     refine jb hr (fun j18 => [(0, .s a0), (3, .i s1), (56, .bo j18)]) (fun j18 => []) (fun j18 hr => ?_) (fun j18 hr => ?_)
     ·
      refine rn tk 2 rfl ?_
      obtain ⟨v19, h20, hr⟩ := bind_some hr
      refine cl (R_In_run _ _ _ _ h20) rfl rfl ?_
      refine rn tk 2 rfl ?_
      refine bs 40 hr rfl (fun c21 hr => ?_) (fun c21 hr => ?_)
      ·
       refine rn tk 1 rfl ?_
       obtain ⟨v22, h23, hr⟩ := bind_some hr
       refine ug rfl rfl rfl ?_
       refine cl (R_In_run _ _ _ _ h23) rfl rfl ?_
       refine rn tk 3 rfl ?_
       refine bs 45 hr rfl (fun c24 hr => ?_) (fun c24 hr => ?_)
       ·
        refine rn tk 2 rfl ?_
        obtain ⟨v25, h26, hr⟩ := bind_some hr
        refine ug rfl rfl rfl ?_
        refine ws tk h26 rfl rfl rfl rfl ?_
        refine rn tk 3 rfl ?_
        refine bs 51 hr rfl (fun c27 hr => ?_) (fun c27 hr => ?_)
        ·
         refine rn tk 2 rfl ?_
         obtain ⟨v28, h29, hr⟩ := bind_some hr
         refine ug rfl rfl rfl ?_
         refine ws tk h29 rfl rfl rfl rfl ?_
         refine rn tk 3 rfl ?_
         cases hr
         exact jn _ rfl rfl rfl
        ·
         refine rn tk 6 rfl ?_
         cases hr
         exact jn _ rfl rfl rfl
       ·
        refine rn tk 12 rfl ?_
        cases hr
        exact jn _ rfl rfl rfl
      ·
       refine rn tk 17 rfl ?_
       cases hr
       exact jn _ rfl rfl rfl
     ·
      refine ac 56 hr rfl (fun c30 hr => ?_) (fun c30 hr => ?_)
      ·
       refine rn tk 8 rfl ?_
       cases hr
       exact ato rfl rfl rfl rfl
      ·
       refine rn tk 8 rfl ?_
       cases hr
       exact atc rfl rfl
  ·
   refine rn tk 2 rfl ?_
   cases hr
   exact ato rfl rfl rfl rfl
 ·
  refine rn tk 6 rfl ?_
  obtain ⟨v31, h32, hr⟩ := bind_some hr
  refine cl (R_In_run _ _ _ _ h32) rfl rfl ?_
  refine rn tk 4 rfl ?_
  cases hr
  exact kr tk (.inr rfl) rfl rfl
 ·
  refine rn tk 2 rfl ?_
  cases hr
  exact kr tk (.inr rfl) rfl rfl
theorem R_letterOrDigit_run (a0 : UInt8) (r : Bool) (hr : R_letterOrDigit a0 = some r) : Run Tryz.prog 37 [.u8 a0] (.bo r) := by
 unfold R_letterOrDigit at hr
 refine rf (fn := Tryz.f37) ⟨Tryz.func37, rfl, by kernel_rfl⟩ rfl (fun _ => rfl) fun g0 hg => ?_
 refine rn tk 8 rfl ?_
 refine wu tk rfl rfl rfl ?_
 refine rn tk 3 rfl ?_
 refine jb hr (fun j1 => [(2, .bo j1)]) (fun j1 => []) (fun j1 hr => ?_) (fun j1 hr => ?_)
 ·
  refine rn tk 2 rfl ?_
  obtain ⟨v2, h3, hr⟩ := bind_some hr
  refine cl (R_In_run _ _ _ _ h3) rfl rfl ?_
  refine rn tk 1 rfl ?_
  refine bs 8 hr rfl (fun c4 hr => ?_) (fun c4 hr => ?_)
  ·
   refine rn tk 9 rfl ?_
   cases hr
   exact jn _ rfl rfl rfl
  ·
   refine rn tk 1 rfl ?_
   obtain ⟨v5, h6, hr⟩ := bind_some hr
   refine ug rfl rfl rfl ?_
   refine cl (R_In_run _ _ _ _ h6) rfl rfl ?_
   refine rn tk 2 rfl ?_
   refine bs 12 hr rfl (fun c7 hr => ?_) (fun c7 hr => ?_)
   ·
    refine rn tk 5 rfl ?_
    cases hr
    exact jn _ rfl rfl rfl
   ·
    refine rn tk 1 rfl ?_
    obtain ⟨v8, h9, hr⟩ := bind_some hr
    refine ug rfl rfl rfl ?_
    refine cl (R_In_run _ _ _ _ h9) rfl rfl ?_
    refine rn tk 3 rfl ?_
    cases hr
    exact jn _ rfl rfl rfl
 ·
  refine rn tk 1 rfl ?_
  cases hr
  exact kr tk (.inr rfl) rfl rfl
theorem R_sign_run (a0 : Str) (r : Int) (hr : R_sign a0 = some r) : Run Tryz.prog 38 [.s a0] (.i r) := by
 unfold R_sign at hr
 refine rf (fn := Tryz.f38) ⟨Tryz.func38, rfl, by kernel_rfl⟩ rfl (fun _ => rfl) fun g0 hg => ?_
 refine rn tk 12 rfl ?_
 refine al2 hr (fun s1 => [(0, .s a0), (3, .i s1)]) (fun s1 => []) (.exit 0) (fun b2 => [(0, .s a0)]) (fun b2 => []) .ret (fun b3 => [(2, .i b3)]) (fun b3 => []) rfl rfl (fun s1 x5 hr => ?_) (fun b2 hr => ?_) (fun b3 hr => ?_)
 ·
  unfold R_sign_l1 at hr
  refine rn tk 9 rfl ?_
  refine ac 7 hr rfl (fun c6 hr => ?_) (fun c6 hr => ?_)
  ·
   refine rn tk 8 rfl ?_
   obtain ⟨v7, h8, hr⟩ := bind_some hr
   refine ws tk h8 rfl rfl rfl rfl ?_
   refine rn tk 3 rfl ?_
   refine ac 13 hr rfl (fun c9 hr => ?_) (fun c9 hr => ?_)
   ·
    refine rn tk 9 rfl ?_
    cases hr
    exact ato rfl rfl rfl rfl
   ·
    refine rn tk 8 rfl ?_
    cases hr
    exact atc rfl rfl
  ·
   refine rn tk 2 rfl ?_
   cases hr
   exact ato rfl rfl rfl rfl
 ·
  refine rn tk 10 rfl ?_
  cases hr
  exact kr tk (.inr rfl) rfl rfl
 ·
  refine rn tk 2 rfl ?_
  cases hr
  exact kr tk (.inr rfl) rfl rfl
theorem R_AddressOk_run (a0 : Str) (r : Bool) (hr : R_AddressOk a0 = some r) : Run Tryz.prog 15 [.s a0] (.bo r) := by
 unfold R_AddressOk at hr
 refine rf (fn := Tryz.f15) ⟨Tryz.func15, rfl, by kernel_rfl⟩ rfl (fun _ => rfl) fun g0 hg => ?_
 refine rn tk 8 rfl ?_
 obtain ⟨v1, h2, hr⟩ := bind_some hr
 refine cl (R_sign_run _ _ h2) rfl rfl ?_
 refine rn tk 10 rfl ?_
 refine al2 hr (fun s3 => [(0, .s a0), (3, .i v1), (4, .i s3)]) (fun s3 => []) (.exit 0) (fun b4 => [(0, .s a0), (3, .i v1)]) (fun b4 => []) .ret (fun b5 => [(2, .bo b5)]) (fun b5 => []) rfl rfl (fun s3 x7 hr => ?_) (fun b4 hr => ?_) (fun b5 hr => ?_)
 ·
  unfold R_AddressOk_l1 at hr
  refine rn tk 8 rfl ?_
  refine ac 10 hr rfl (fun c8 hr => ?_) (fun c8 hr => ?_)
  ·
   refine rn tk 8 rfl ?_
   obtain ⟨v9, h10, hr⟩ := bind_some hr
   refine ws tk h10 rfl rfl rfl rfl ?_
   refine rn tk 3 rfl ?_
   refine jb hr (fun j11 => [(0, .s a0), (3, .i v1), (4, .i s3), (38, .bo j11)]) (fun j11 => []) (fun j11 hr => ?_) (fun j11 hr => ?_)
   ·
    refine rn tk 2 rfl ?_
    obtain ⟨v12, h13, hr⟩ := bind_some hr
    refine cl (R_letterOrDigit_run _ _ h13) rfl rfl ?_
    refine rn tk 2 rfl ?_
    refine bs 19 hr rfl (fun c14 hr => ?_) (fun c14 hr => ?_)
    ·
     refine rn tk 4 rfl ?_
     refine bs 23 hr rfl (fun c15 hr => ?_) (fun c15 hr => ?_)
     ·
      refine rn tk 4 rfl ?_
      refine bs 27 hr rfl (fun c16 hr => ?_) (fun c16 hr => ?_)
      ·
       refine rn tk 4 rfl ?_
       refine bs 31 hr rfl (fun c17 hr => ?_) (fun c17 hr => ?_)
       ·
        refine rn tk 4 rfl ?_
        refine bs 35 hr rfl (fun c18 hr => ?_) (fun c18 hr => ?_)
        ·
         refine rn tk 4 rfl ?_
         cases hr
         exact jn _ rfl rfl rfl
        ·
         refine rn tk 4 rfl ?_
         cases hr
         exact jn _ rfl rfl rfl
       ·
        refine rn tk 8 rfl ?_
        cases hr
        exact jn _ rfl rfl rfl
      ·
       refine rn tk 12 rfl ?_
       cases hr
       exact jn _ rfl rfl rfl
     ·
      refine rn tk 16 rfl ?_
      cases hr
      exact jn _ rfl rfl rfl
    ·
     refine rn tk 20 rfl ?_
     cases hr
     exact jn _ rfl rfl rfl
   ·
    refine ac 38 hr rfl (fun c19 hr => ?_) (fun c19 hr => ?_)
    ·
     refine rn tk 8 rfl ?_
     cases hr
     exact ato rfl rfl rfl rfl
    ·
     refine rn tk 8 rfl ?_
     cases hr
     exact atc rfl rfl
  ·
   refine rn tk 2 rfl ?_
   cases hr
   exact ato rfl rfl rfl rfl
 ·
  refine rn tk 2 rfl ?_
  refine jb hr (fun j20 => [(2, .bo j20)]) (fun j20 => []) (fun j20 hr => ?_) (fun j20 hr => ?_)
  ·
   refine rn tk 2 rfl ?_
   obtain ⟨v21, h22, hr⟩ := bind_some hr
   refine cl (R_In_run _ _ _ _ h22) rfl rfl ?_
   refine rn tk 1 rfl ?_
   refine bs 41 hr rfl (fun c23 hr => ?_) (fun c23 hr => ?_)
   ·
    refine rn tk 6 rfl ?_
    refine bs 47 hr rfl (fun c24 hr => ?_) (fun c24 hr => ?_)
    ·
     refine rn tk 3 rfl ?_
     obtain ⟨v25, h26, hr⟩ := bind_some hr
     refine ug rfl rfl rfl ?_
     refine wscL tk h26 rfl rfl rfl rfl ?_
     obtain ⟨v27, h28, hr⟩ := bind_some hr
     refine ug rfl rfl rfl ?_
     refine cl (R_DomainOk_run _ _ h28) rfl rfl ?_
     refine rn tk 3 rfl ?_
     cases hr
     exact jn _ rfl rfl rfl
    ·
     refine rn tk 8 rfl ?_
     cases hr
     exact jn _ rfl rfl rfl
   ·
    refine rn tk 14 rfl ?_
    cases hr
    exact jn _ rfl rfl rfl
  ·
   refine rn tk 1 rfl ?_
   cases hr
   exact kr tk (.inr rfl) rfl rfl
 ·
  refine rn tk 2 rfl ?_
  cases hr
  exact kr tk (.inr rfl) rfl rfl
theorem R_NameOk_run (a0 : Str) (r : Bool) (hr : R_NameOk a0 = some r) : Run Tryz.prog 14 [.s a0] (.bo r) := by
 unfold R_NameOk at hr
 refine rf (fn := Tryz.f14) ⟨Tryz.func14, rfl, by kernel_rfl⟩ rfl (fun _ => rfl) fun g0 hg => ?_
 refine rn tk 12 rfl ?_
 refine al2 hr (fun s1 => [(0, .s a0), (3, .i s1)]) (fun s1 => []) (.exit 0) (fun b2 => [(0, .s a0)]) (fun b2 => []) .ret (fun b3 => [(2, .bo b3)]) (fun b3 => []) rfl rfl (fun s1 x5 hr => ?_) (fun b2 hr => ?_) (fun b3 hr => ?_)
 ·
  unfold R_NameOk_l1 at hr
  refine rn tk 9 rfl ?_
  refine ac 7 hr rfl (fun c6 hr => ?_) (fun c6 hr => ?_)
  ·
   refine rn tk 4 rfl ?_
   refine jb hr (fun j7 => [(0, .s a0), (3, .i s1), (32, .bo j7)]) (fun j7 => []) (fun j7 hr => ?_) (fun j7 hr => ?_)
   ·
    refine rn tk 3 rfl ?_
    obtain ⟨v8, h9, hr⟩ := bind_some hr
    refine ws tk h9 rfl rfl rfl rfl ?_
    obtain ⟨v10, h11, hr⟩ := bind_some hr
    refine cl (R_letterOrDigit_run _ _ h11) rfl rfl ?_
    refine rn tk 2 rfl ?_
    refine bs 15 hr rfl (fun c12 hr => ?_) (fun c12 hr => ?_)
    ·
     refine rn tk 2 rfl ?_
     obtain ⟨v13, h14, hr⟩ := bind_some hr
     refine ug rfl rfl rfl ?_
     refine ws tk h14 rfl rfl rfl rfl ?_
     refine rn tk 3 rfl ?_
     refine bs 21 hr rfl (fun c15 hr => ?_) (fun c15 hr => ?_)
     ·
      refine rn tk 2 rfl ?_
      obtain ⟨v16, h17, hr⟩ := bind_some hr
      refine ug rfl rfl rfl ?_
      refine ws tk h17 rfl rfl rfl rfl ?_
      refine rn tk 3 rfl ?_
      refine bs 27 hr rfl (fun c18 hr => ?_) (fun c18 hr => ?_)
      ·
       refine rn tk 2 rfl ?_
       obtain ⟨v19, h20, hr⟩ := bind_some hr
       refine ug rfl rfl rfl ?_
       refine ws tk h20 rfl rfl rfl rfl ?_
       refine rn tk 3 rfl ?_
       cases hr
       exact jn _ rfl rfl rfl
      ·
       refine rn tk 6 rfl ?_
       cases hr
       exact jn _ rfl rfl rfl
     ·
      refine rn tk 12 rfl ?_
      cases hr
      exact jn _ rfl rfl rfl
    ·
     refine rn tk 18 rfl ?_
     cases hr
     exact jn _ rfl rfl rfl
   ·
    refine ac 32 hr rfl (fun c21 hr => ?_) (fun c21 hr => ?_)
    ·
     refine rn tk 8 rfl ?_
     cases hr
     exact ato rfl rfl rfl rfl
    ·
     refine rn tk 8 rfl ?_
     cases hr
     exact atc rfl rfl
  ·
   refine rn tk 2 rfl ?_
   cases hr
   exact ato rfl rfl rfl rfl
 ·
  refine rn tk 6 rfl ?_
  obtain ⟨v22, h23, hr⟩ := bind_some hr
  refine cl (R_In_run _ _ _ _ h23) rfl rfl ?_
  refine rn tk 4 rfl ?_
  cases hr
  exact kr tk (.inr rfl) rfl rfl
 ·
  refine rn tk 2 rfl ?_
  cases hr
  exact kr tk (.inr rfl) rfl rfl
theorem R_CommandFault_run (a0 : TCommand) (r : TFault) (hr : R_CommandFault a0 = some r) : Run Tryz.prog 5 [.agg [.i a0.Verb, .s a0.Name, .s a0.Address, .i a0.Size, .i a0.Notify, .bo a0.Last]] (.agg [.i r.Code, .i r.Index]) := by
 unfold R_CommandFault at hr
 refine rf (fn := Tryz.f5) ⟨Tryz.func5, rfl, by kernel_rfl⟩ rfl (fun _ => rfl) fun g0 hg => ?_
 refine rn tk 17 rfl ?_
 obtain ⟨v1, h2, hr⟩ := bind_some hr
 refine cl (R_In_run _ _ _ _ h2) rfl rfl ?_
 refine rn tk 3 rfl ?_
 refine ac 8 hr rfl (fun c3 hr => ?_) (fun c3 hr => ?_)
 ·
  refine rn tk 2 rfl ?_
  obtain ⟨v4, h5, hr⟩ := bind_some hr
  refine cl (R_At_run _ _ _ h5) rfl rfl ?_
  refine rn tk 5 rfl ?_
  cases hr
  exact kr tk (.inr rfl) rfl rfl
 ·
  refine rn tk 3 rfl ?_
  refine jb hr (fun j6 => [(1, .ptr 1 0), (2, .ptr 2 0), (3, .i a0.Verb), (59, .bo j6)]) (fun j6 => [(2, .cells [.i 0, .i 0]), (1, .cells [.i a0.Verb, .s a0.Name, .s a0.Address, .i a0.Size, .i a0.Notify, .bo a0.Last])]) (fun j6 hr => ?_) (fun j6 hr => ?_)
  ·
   refine rn tk 4 rfl ?_
   refine bs 12 hr rfl (fun c7 hr => ?_) (fun c7 hr => ?_)
   ·
    refine rn tk 5 rfl ?_
    refine bs 17 hr rfl (fun c8 hr => ?_) (fun c8 hr => ?_)
    ·
     refine rn tk 43 rfl ?_
     cases hr
     exact jn _ rfl rfl rfl
    ·
     refine rn tk 3 rfl ?_
     refine bs 20 hr rfl (fun c9 hr => ?_) (fun c9 hr => ?_)
     ·
      refine rn tk 4 rfl ?_
      refine bs 24 hr rfl (fun c10 hr => ?_) (fun c10 hr => ?_)
      ·
       refine rn tk 6 rfl ?_
       refine bs 30 hr rfl (fun c11 hr => ?_) (fun c11 hr => ?_)
       ·
        refine rn tk 30 rfl ?_
        cases hr
        exact jn _ rfl rfl rfl
       ·
        refine rn tk 3 rfl ?_
        refine kn 33 c9 rfl ?_
        refine rn tk 4 rfl ?_
        refine bs 37 hr rfl (fun c12 hr => ?_) (fun c12 hr => ?_)
        ·
         refine rn tk 6 rfl ?_
         refine bs 43 hr rfl (fun c13 hr => ?_) (fun c13 hr => ?_)
         ·
          refine rn tk 17 rfl ?_
          cases hr
          exact jn _ rfl rfl rfl
         ·
          refine rn tk 3 rfl ?_
          refine kn 46 c10 rfl ?_
          refine rn tk 6 rfl ?_
          refine bs 52 hr rfl (fun c14 hr => ?_) (fun c14 hr => ?_)
          ·
           refine rn tk 8 rfl ?_
           cases hr
           exact jn _ rfl rfl rfl
          ·
           refine rn tk 3 rfl ?_
           refine kn 55 c12 rfl ?_
           refine rn tk 5 rfl ?_
           cases hr
           exact jn _ rfl rfl rfl
        ·
         refine rn tk 9 rfl ?_
         refine kn 46 c10 rfl ?_
         refine rn tk 6 rfl ?_
         refine bs 52 hr rfl (fun c15 hr => ?_) (fun c15 hr => ?_)
         ·
          refine rn tk 8 rfl ?_
          cases hr
          exact jn _ rfl rfl rfl
         ·
          refine rn tk 3 rfl ?_
          refine kn 55 c12 rfl ?_
          refine rn tk 5 rfl ?_
          cases hr
          exact jn _ rfl rfl rfl
      ·
       refine rn tk 9 rfl ?_
       refine kn 33 c9 rfl ?_
       refine rn tk 4 rfl ?_
       refine bs 37 hr rfl (fun c16 hr => ?_) (fun c16 hr => ?_)
       ·
        refine rn tk 6 rfl ?_
        refine bs 43 hr rfl (fun c17 hr => ?_) (fun c17 hr => ?_)
        ·
         refine rn tk 17 rfl ?_
         cases hr
         exact jn _ rfl rfl rfl
        ·
         refine rn tk 3 rfl ?_
         refine kn 46 c10 rfl ?_
         refine rn tk 9 rfl ?_
         refine kn 55 c16 rfl ?_
         refine rn tk 5 rfl ?_
         cases hr
         exact jn _ rfl rfl rfl
       ·
        refine rn tk 9 rfl ?_
        refine kn 46 c10 rfl ?_
        refine rn tk 9 rfl ?_
        refine kn 55 c16 rfl ?_
        refine rn tk 5 rfl ?_
        cases hr
        exact jn _ rfl rfl rfl
     ·
      refine rn tk 13 rfl ?_
      refine kn 33 c9 rfl ?_
      refine rn tk 13 rfl ?_
      refine bs 46 hr rfl (fun c18 hr => ?_) (fun c18 hr => ?_)
      ·
       refine rn tk 6 rfl ?_
       refine bs 52 hr rfl (fun c19 hr => ?_) (fun c19 hr => ?_)
       ·
        refine rn tk 8 rfl ?_
        cases hr
        exact jn _ rfl rfl rfl
       ·
        refine rn tk 3 rfl ?_
        refine bs 55 hr rfl (fun c20 hr => ?_) (fun c20 hr => ?_)
        ·
         refine rn tk 5 rfl ?_
         cases hr
         exact jn _ rfl rfl rfl
        ·
         refine rn tk 5 rfl ?_
         cases hr
         exact jn _ rfl rfl rfl
      ·
       refine rn tk 9 rfl ?_
       refine bs 55 hr rfl (fun c21 hr => ?_) (fun c21 hr => ?_)
       ·
        refine rn tk 5 rfl ?_
        cases hr
        exact jn _ rfl rfl rfl
       ·
        refine rn tk 5 rfl ?_
        cases hr
        exact jn _ rfl rfl rfl
   ·
    refine rn tk 8 rfl ?_
    refine bs 20 hr rfl (fun c22 hr => ?_) (fun c22 hr => ?_)
    ·
     refine rn tk 4 rfl ?_
     refine bs 24 hr rfl (fun c23 hr => ?_) (fun c23 hr => ?_)
     ·
      refine rn tk 6 rfl ?_
      refine bs 30 hr rfl (fun c24 hr => ?_) (fun c24 hr => ?_)
      ·
       refine rn tk 30 rfl ?_
       cases hr
       exact jn _ rfl rfl rfl
      ·
       refine rn tk 3 rfl ?_
       refine kn 33 c22 rfl ?_
       refine rn tk 4 rfl ?_
       refine bs 37 hr rfl (fun c25 hr => ?_) (fun c25 hr => ?_)
       ·
        refine rn tk 6 rfl ?_
        refine bs 43 hr rfl (fun c26 hr => ?_) (fun c26 hr => ?_)
        ·
         refine rn tk 17 rfl ?_
         cases hr
         exact jn _ rfl rfl rfl
        ·
         refine rn tk 3 rfl ?_
         refine kn 46 c23 rfl ?_
         refine rn tk 6 rfl ?_
         refine bs 52 hr rfl (fun c27 hr => ?_) (fun c27 hr => ?_)
         ·
          refine rn tk 8 rfl ?_
          cases hr
          exact jn _ rfl rfl rfl
         ·
          refine rn tk 3 rfl ?_
          refine kn 55 c25 rfl ?_
          refine rn tk 5 rfl ?_
          cases hr
          exact jn _ rfl rfl rfl
       ·
        refine rn tk 9 rfl ?_
        refine kn 46 c23 rfl ?_
        refine rn tk 6 rfl ?_
        refine bs 52 hr rfl (fun c28 hr => ?_) (fun c28 hr => ?_)
        ·
         refine rn tk 8 rfl ?_
         cases hr
         exact jn _ rfl rfl rfl
        ·
         refine rn tk 3 rfl ?_
         refine kn 55 c25 rfl ?_
         refine rn tk 5 rfl ?_
         cases hr
         exact jn _ rfl rfl rfl
     ·
      refine rn tk 9 rfl ?_
      refine kn 33 c22 rfl ?_
      refine rn tk 4 rfl ?_
      refine bs 37 hr rfl (fun c29 hr => ?_) (fun c29 hr => ?_)
      ·
       refine rn tk 6 rfl ?_
       refine bs 43 hr rfl (fun c30 hr => ?_) (fun c30 hr => ?_)
       ·
        refine rn tk 17 rfl ?_
        cases hr
        exact jn _ rfl rfl rfl
       ·
        refine rn tk 3 rfl ?_
        refine kn 46 c23 rfl ?_
        refine rn tk 9 rfl ?_
        refine kn 55 c29 rfl ?_
        refine rn tk 5 rfl ?_
        cases hr
        exact jn _ rfl rfl rfl
      ·
       refine rn tk 9 rfl ?_
       refine kn 46 c23 rfl ?_
       refine rn tk 9 rfl ?_
       refine kn 55 c29 rfl ?_
       refine rn tk 5 rfl ?_
       cases hr
       exact jn _ rfl rfl rfl
    ·
     refine rn tk 13 rfl ?_
     refine kn 33 c22 rfl ?_
     refine rn tk 13 rfl ?_
     refine bs 46 hr rfl (fun c31 hr => ?_) (fun c31 hr => ?_)
     ·
      refine rn tk 6 rfl ?_
      refine bs 52 hr rfl (fun c32 hr => ?_) (fun c32 hr => ?_)
      ·
       refine rn tk 8 rfl ?_
       cases hr
       exact jn _ rfl rfl rfl
      ·
       refine rn tk 3 rfl ?_
       refine bs 55 hr rfl (fun c33 hr => ?_) (fun c33 hr => ?_)
       ·
        refine rn tk 5 rfl ?_
        cases hr
        exact jn _ rfl rfl rfl
       ·
        refine rn tk 5 rfl ?_
        cases hr
        exact jn _ rfl rfl rfl
     ·
      refine rn tk 9 rfl ?_
      refine bs 55 hr rfl (fun c34 hr => ?_) (fun c34 hr => ?_)
      ·
       refine rn tk 5 rfl ?_
       cases hr
       exact jn _ rfl rfl rfl
      ·
       refine rn tk 5 rfl ?_
       cases hr
       exact jn _ rfl rfl rfl
  ·
   refine ac 59 hr rfl (fun c35 hr => ?_) (fun c35 hr => ?_)
   ·
    refine rn tk 2 rfl ?_
    obtain ⟨v36, h37, hr⟩ := bind_some hr
    refine cl (R_At_run _ _ _ h37) rfl rfl ?_
    refine rn tk 5 rfl ?_
    cases hr
    exact kr tk (.inr rfl) rfl rfl
   ·
    refine rn tk 3 rfl ?_
    refine jb hr (fun j38 => [(1, .ptr 1 0), (2, .ptr 2 0), (3, .i a0.Verb), (68, .bo j38)]) (fun j38 => [(2, .cells [.i 0, .i 0]), (1, .cells [.i a0.Verb, .s a0.Name, .s a0.Address, .i a0.Size, .i a0.Notify, .bo a0.Last])]) (fun j38 hr => ?_) (fun j38 hr => ?_)
    ·
     refine rn tk 4 rfl ?_
     refine bs 63 hr rfl (fun c39 hr => ?_) (fun c39 hr => ?_)
     ·
      refine rn tk 2 rfl ?_
      obtain ⟨v40, h41, hr⟩ := bind_some hr
      refine ug rfl rfl rfl ?_
      refine cl (R_NameOk_run _ _ h41) rfl rfl ?_
      refine rn tk 3 rfl ?_
      cases hr
      exact jn _ rfl rfl rfl
     ·
      refine rn tk 6 rfl ?_
      cases hr
      exact jn _ rfl rfl rfl
    ·
     refine ac 68 hr rfl (fun c42 hr => ?_) (fun c42 hr => ?_)
     ·
      refine rn tk 2 rfl ?_
      obtain ⟨v43, h44, hr⟩ := bind_some hr
      refine cl (R_At_run _ _ _ h44) rfl rfl ?_
      refine rn tk 5 rfl ?_
      cases hr
      exact kr tk (.inr rfl) rfl rfl
     ·
      refine rn tk 3 rfl ?_
      refine jb hr (fun j45 => [(1, .ptr 1 0), (2, .ptr 2 0), (3, .i a0.Verb), (86, .bo j45)]) (fun j45 => [(2, .cells [.i 0, .i 0]), (1, .cells [.i a0.Verb, .s a0.Name, .s a0.Address, .i a0.Size, .i a0.Notify, .bo a0.Last])]) (fun j45 hr => ?_) (fun j45 hr => ?_)
      ·
       refine rn tk 4 rfl ?_
       refine bs 72 hr rfl (fun c46 hr => ?_) (fun c46 hr => ?_)
       ·
        refine rn tk 5 rfl ?_
        refine bs 77 hr rfl (fun c47 hr => ?_) (fun c47 hr => ?_)
        ·
         refine rn tk 6 rfl ?_
         obtain ⟨v48, h49, hr⟩ := bind_some hr
         refine ug rfl rfl rfl ?_
         refine cl (R_AddressOk_run _ _ h49) rfl rfl ?_
         refine rn tk 3 rfl ?_
         cases hr
         exact jn _ rfl rfl rfl
        ·
         refine rn tk 4 rfl ?_
         refine bs 81 hr rfl (fun c50 hr => ?_) (fun c50 hr => ?_)
         ·
          refine rn tk 2 rfl ?_
          obtain ⟨v51, h52, hr⟩ := bind_some hr
          refine ug rfl rfl rfl ?_
          refine cl (R_AddressOk_run _ _ h52) rfl rfl ?_
          refine rn tk 3 rfl ?_
          cases hr
          exact jn _ rfl rfl rfl
         ·
          refine rn tk 6 rfl ?_
          cases hr
          exact jn _ rfl rfl rfl
       ·
        refine rn tk 9 rfl ?_
        refine bs 81 hr rfl (fun c53 hr => ?_) (fun c53 hr => ?_)
        ·
         refine rn tk 2 rfl ?_
         obtain ⟨v54, h55, hr⟩ := bind_some hr
         refine ug rfl rfl rfl ?_
         refine cl (R_AddressOk_run _ _ h55) rfl rfl ?_
         refine rn tk 3 rfl ?_
         cases hr
         exact jn _ rfl rfl rfl
        ·
         refine rn tk 6 rfl ?_
         cases hr
         exact jn _ rfl rfl rfl
      ·
       refine ac 86 hr rfl (fun c56 hr => ?_) (fun c56 hr => ?_)
       ·
        refine rn tk 2 rfl ?_
        obtain ⟨v57, h58, hr⟩ := bind_some hr
        refine cl (R_At_run _ _ _ h58) rfl rfl ?_
        refine rn tk 5 rfl ?_
        cases hr
        exact kr tk (.inr rfl) rfl rfl
       ·
        refine rn tk 3 rfl ?_
        refine jb hr (fun j59 => [(1, .ptr 1 0), (2, .ptr 2 0), (3, .i a0.Verb), (99, .bo j59)]) (fun j59 => [(2, .cells [.i 0, .i 0]), (1, .cells [.i a0.Verb, .s a0.Name, .s a0.Address, .i a0.Size, .i a0.Notify, .bo a0.Last])]) (fun j59 hr => ?_) (fun j59 hr => ?_)
        ·
         refine rn tk 4 rfl ?_
         refine bs 90 hr rfl (fun c60 hr => ?_) (fun c60 hr => ?_)
         ·
          refine rn tk 6 rfl ?_
          obtain ⟨v61, h62, hr⟩ := bind_some hr
          refine ug rfl rfl rfl ?_
          refine cl (R_In_run _ _ _ _ h62) rfl rfl ?_
          refine rn tk 3 rfl ?_
          cases hr
          exact jn _ rfl rfl rfl
         ·
          refine rn tk 4 rfl ?_
          refine bs 94 hr rfl (fun c63 hr => ?_) (fun c63 hr => ?_)
          ·
           refine rn tk 2 rfl ?_
           obtain ⟨v64, h65, hr⟩ := bind_some hr
           refine ug rfl rfl rfl ?_
           refine cl (R_In_run _ _ _ _ h65) rfl rfl ?_
           refine rn tk 3 rfl ?_
           cases hr
           exact jn _ rfl rfl rfl
          ·
           refine rn tk 6 rfl ?_
           cases hr
           exact jn _ rfl rfl rfl
        ·
         refine ac 99 hr rfl (fun c66 hr => ?_) (fun c66 hr => ?_)
         ·
          refine rn tk 2 rfl ?_
          obtain ⟨v67, h68, hr⟩ := bind_some hr
          refine cl (R_At_run _ _ _ h68) rfl rfl ?_
          refine rn tk 5 rfl ?_
          cases hr
          exact kr tk (.inr rfl) rfl rfl
         ·
          refine rn tk 3 rfl ?_
          refine jb hr (fun j69 => [(2, .ptr 2 0), (108, .bo j69)]) (fun j69 => [(2, .cells [.i 0, .i 0])]) (fun j69 hr => ?_) (fun j69 hr => ?_)
          ·
           refine rn tk 4 rfl ?_
           refine bs 103 hr rfl (fun c70 hr => ?_) (fun c70 hr => ?_)
           ·
            refine rn tk 2 rfl ?_
            obtain ⟨v71, h72, hr⟩ := bind_some hr
            refine ug rfl rfl rfl ?_
            refine cl (R_In_run _ _ _ _ h72) rfl rfl ?_
            refine rn tk 3 rfl ?_
            cases hr
            exact jn _ rfl rfl rfl
           ·
            refine rn tk 6 rfl ?_
            cases hr
            exact jn _ rfl rfl rfl
          ·
           refine ac 108 hr rfl (fun c73 hr => ?_) (fun c73 hr => ?_)
           ·
            refine rn tk 2 rfl ?_
            obtain ⟨v74, h75, hr⟩ := bind_some hr
            refine cl (R_At_run _ _ _ h75) rfl rfl ?_
            refine rn tk 5 rfl ?_
            cases hr
            exact kr tk (.inr rfl) rfl rfl
           ·
            refine rn tk 9 rfl ?_
            cases hr
            exact kr tk (.inr rfl) rfl rfl
theorem R_Conditions_run (a0 : Int) (r : Str) (hr : R_Conditions a0 = some r) : Run Tryz.prog 23 [.i a0] (.s r) := by
 unfold R_Conditions at hr
 refine rf (fn := Tryz.f23) ⟨Tryz.func23, rfl, by kernel_rfl⟩ rfl (fun _ => rfl) fun g0 hg => ?_
 refine rn tk 7 rfl ?_
 refine wz cS ([([110, 101, 118, 101, 114] : Str), ([102, 97, 105, 108, 117, 114, 101] : Str), ([100, 101, 108, 97, 121] : Str), ([102, 97, 105, 108, 117, 114, 101, 44, 100, 101, 108, 97, 121] : Str), ([115, 117, 99, 99, 101, 115, 115] : Str), ([102, 97, 105, 108, 117, 114, 101, 44, 115, 117, 99, 99, 101, 115, 115] : Str), ([100, 101, 108, 97, 121, 44, 115, 117, 99, 99, 101, 115, 115] : Str), ([102, 97, 105, 108, 117, 114, 101, 44, 100, 101, 108, 97, 121, 44, 115, 117, 99, 99, 101, 115, 115] : Str)] : List Str) tk rfl rfl (fun _ => rfl) rfl (by kernel_rfl) rfl ?_
 refine rn tk 7 rfl ?_
 obtain ⟨v1, h2, hr⟩ := bind_some hr
 refine wi tk h2 rfl rfl rfl rfl rfl ?_
 refine rn tk 5 rfl ?_
 cases hr
 exact kr tk (.inr rfl) rfl rfl
private theorem R_Digits_r0_run (a0 : Int) (r : Str) (hr : R_Digits_r0 a0 = some r) : Run Tryz.prog 22 [.i a0] (.s r) := by
 unfold R_Digits_r0 at hr
 refine rf (fn := Tryz.f22) ⟨Tryz.func22, rfl, by kernel_rfl⟩ rfl (fun _ => rfl) fun g0 hg => ?_
 refine rn tk 12 rfl ?_
 refine ac 4 hr rfl (fun c1 hr => ?_) (fun c1 hr => ?_)
 ·
  refine rn tk 5 rfl ?_
  obtain ⟨v2, h3, hr⟩ := bind_some hr
  refine wscLH tk h3 rfl rfl rfl rfl rfl ?_
  refine rn tk 5 rfl ?_
  cases hr
  exact kr tk (.inr rfl) rfl rfl
 ·
  refine rn tk 5 rfl ?_
  refine wq (ev_iquo rfl rfl rfl) rfl rfl rfl ?_
  cases hr
private theorem R_Digits_r1_run (a0 : Int) (r : Str) (hr : R_Digits_r1 a0 = some r) : Run Tryz.prog 22 [.i a0] (.s r) := by
 unfold R_Digits_r1 at hr
 refine rf (fn := Tryz.f22) ⟨Tryz.func22, rfl, by kernel_rfl⟩ rfl (fun _ => rfl) fun g0 hg => ?_
 refine rn tk 12 rfl ?_
 refine ac 4 hr rfl (fun c1 hr => ?_) (fun c1 hr => ?_)
 ·
  refine rn tk 5 rfl ?_
  obtain ⟨v2, h3, hr⟩ := bind_some hr
  refine wscLH tk h3 rfl rfl rfl rfl rfl ?_
  refine rn tk 5 rfl ?_
  cases hr
  exact kr tk (.inr rfl) rfl rfl
 ·
  refine rn tk 5 rfl ?_
  refine wq (ev_iquo rfl rfl rfl) rfl rfl rfl ?_
  obtain ⟨v4, h5, hr⟩ := bind_some hr
  refine cl (R_Digits_r0_run _ _ h5) rfl rfl ?_
  refine rn tk 1 rfl ?_
  refine wq (ev_irem rfl rfl rfl) rfl rfl rfl ?_
  obtain ⟨v6, h7, hr⟩ := bind_some hr
  refine cl (R_Digits_r0_run _ _ h7) rfl rfl ?_
  obtain ⟨v8, h9, hr⟩ := bind_some hr
  refine wc h9 rfl rfl rfl ?_
  refine rn tk 4 rfl ?_
  cases hr
  exact kr tk (.inr rfl) rfl rfl
private theorem R_Digits_r2_run (a0 : Int) (r : Str) (hr : R_Digits_r2 a0 = some r) : Run Tryz.prog 22 [.i a0] (.s r) := by
 unfold R_Digits_r2 at hr
 refine rf (fn := Tryz.f22) ⟨Tryz.func22, rfl, by kernel_rfl⟩ rfl (fun _ => rfl) fun g0 hg => ?_
 refine rn tk 12 rfl ?_
 refine ac 4 hr rfl (fun c1 hr => ?_) (fun c1 hr => ?_)
 ·
  refine rn tk 5 rfl ?_
  obtain ⟨v2, h3, hr⟩ := bind_some hr
  refine wscLH tk h3 rfl rfl rfl rfl rfl ?_
  refine rn tk 5 rfl ?_
  cases hr
  exact kr tk (.inr rfl) rfl rfl
 ·
  refine rn tk 5 rfl ?_
  refine wq (ev_iquo rfl rfl rfl) rfl rfl rfl ?_
  obtain ⟨v4, h5, hr⟩ := bind_some hr
  refine cl (R_Digits_r1_run _ _ h5) rfl rfl ?_
  refine rn tk 1 rfl ?_
  refine wq (ev_irem rfl rfl rfl) rfl rfl rfl ?_
  obtain ⟨v6, h7, hr⟩ := bind_some hr
  refine cl (R_Digits_r1_run _ _ h7) rfl rfl ?_
  obtain ⟨v8, h9, hr⟩ := bind_some hr
  refine wc h9 rfl rfl rfl ?_
  refine rn tk 4 rfl ?_
  cases hr
  exact kr tk (.inr rfl) rfl rfl
private theorem R_Digits_r3_run (a0 : Int) (r : Str) (hr : R_Digits_r3 a0 = some r) : Run Tryz.prog 22 [.i a0] (.s r) := by
 unfold R_Digits_r3 at hr
 refine rf (fn := Tryz.f22) ⟨Tryz.func22, rfl, by kernel_rfl⟩ rfl (fun _ => rfl) fun g0 hg => ?_
 refine rn tk 12 rfl ?_
 refine ac 4 hr rfl (fun c1 hr => ?_) (fun c1 hr => ?_)
 ·
  refine rn tk 5 rfl ?_
  obtain ⟨v2, h3, hr⟩ := bind_some hr
  refine wscLH tk h3 rfl rfl rfl rfl rfl ?_
  refine rn tk 5 rfl ?_
  cases hr
  exact kr tk (.inr rfl) rfl rfl
 ·
  refine rn tk 5 rfl ?_
  refine wq (ev_iquo rfl rfl rfl) rfl rfl rfl ?_
  obtain ⟨v4, h5, hr⟩ := bind_some hr
  refine cl (R_Digits_r2_run _ _ h5) rfl rfl ?_
  refine rn tk 1 rfl ?_
  refine wq (ev_irem rfl rfl rfl) rfl rfl rfl ?_
  obtain ⟨v6, h7, hr⟩ := bind_some hr
  refine cl (R_Digits_r2_run _ _ h7) rfl rfl ?_
  obtain ⟨v8, h9, hr⟩ := bind_some hr
  refine wc h9 rfl rfl rfl ?_
  refine rn tk 4 rfl ?_
  cases hr
  exact kr tk (.inr rfl) rfl rfl
private theorem R_Digits_r4_run (a0 : Int) (r : Str) (hr : R_Digits_r4 a0 = some r) : Run Tryz.prog 22 [.i a0] (.s r) := by
 unfold R_Digits_r4 at hr
 refine rf (fn := Tryz.f22) ⟨Tryz.func22, rfl, by kernel_rfl⟩ rfl (fun _ => rfl) fun g0 hg => ?_
 refine rn tk 12 rfl ?_
 refine ac 4 hr rfl (fun c1 hr => ?_) (fun c1 hr => ?_)
 ·
  refine rn tk 5 rfl ?_
  obtain ⟨v2, h3, hr⟩ := bind_some hr
  refine wscLH tk h3 rfl rfl rfl rfl rfl ?_
  refine rn tk 5 rfl ?_
  cases hr
  exact kr tk (.inr rfl) rfl rfl
 ·
  refine rn tk 5 rfl ?_
  refine wq (ev_iquo rfl rfl rfl) rfl rfl rfl ?_
  obtain ⟨v4, h5, hr⟩ := bind_some hr
  refine cl (R_Digits_r3_run _ _ h5) rfl rfl ?_
  refine rn tk 1 rfl ?_
  refine wq (ev_irem rfl rfl rfl) rfl rfl rfl ?_
  obtain ⟨v6, h7, hr⟩ := bind_some hr
  refine cl (R_Digits_r3_run _ _ h7) rfl rfl ?_
  obtain ⟨v8, h9, hr⟩ := bind_some hr
  refine wc h9 rfl rfl rfl ?_
  refine rn tk 4 rfl ?_
  cases hr
  exact kr tk (.inr rfl) rfl rfl
private theorem R_Digits_r5_run (a0 : Int) (r : Str) (hr : R_Digits_r5 a0 = some r) : Run Tryz.prog 22 [.i a0] (.s r) := by
 unfold R_Digits_r5 at hr
 refine rf (fn := Tryz.f22) ⟨Tryz.func22, rfl, by kernel_rfl⟩ rfl (fun _ => rfl) fun g0 hg => ?_
 refine rn tk 12 rfl ?_
 refine ac 4 hr rfl (fun c1 hr => ?_) (fun c1 hr => ?_)
 ·
  refine rn tk 5 rfl ?_
  obtain ⟨v2, h3, hr⟩ := bind_some hr
  refine wscLH tk h3 rfl rfl rfl rfl rfl ?_
  refine rn tk 5 rfl ?_
  cases hr
  exact kr tk (.inr rfl) rfl rfl
 ·
  refine rn tk 5 rfl ?_
  refine wq (ev_iquo rfl rfl rfl) rfl rfl rfl ?_
  obtain ⟨v4, h5, hr⟩ := bind_some hr
  refine cl (R_Digits_r4_run _ _ h5) rfl rfl ?_
  refine rn tk 1 rfl ?_
  refine wq (ev_irem rfl rfl rfl) rfl rfl rfl ?_
  obtain ⟨v6, h7, hr⟩ := bind_some hr
  refine cl (R_Digits_r4_run _ _ h7) rfl rfl ?_
  obtain ⟨v8, h9, hr⟩ := bind_some hr
  refine wc h9 rfl rfl rfl ?_
  refine rn tk 4 rfl ?_
  cases hr
  exact kr tk (.inr rfl) rfl rfl
private theorem R_Digits_r6_run (a0 : Int) (r : Str) (hr : R_Digits_r6 a0 = some r) : Run Tryz.prog 22 [.i a0] (.s r) := by
 unfold R_Digits_r6 at hr
 refine rf (fn := Tryz.f22) ⟨Tryz.func22, rfl, by kernel_rfl⟩ rfl (fun _ => rfl) fun g0 hg => ?_
 refine rn tk 12 rfl ?_
 refine ac 4 hr rfl (fun c1 hr => ?_) (fun c1 hr => ?_)
 ·
  refine rn tk 5 rfl ?_
  obtain ⟨v2, h3, hr⟩ := bind_some hr
  refine wscLH tk h3 rfl rfl rfl rfl rfl ?_
  refine rn tk 5 rfl ?_
  cases hr
  exact kr tk (.inr rfl) rfl rfl
 ·
  refine rn tk 5 rfl ?_
  refine wq (ev_iquo rfl rfl rfl) rfl rfl rfl ?_
  obtain ⟨v4, h5, hr⟩ := bind_some hr
  refine cl (R_Digits_r5_run _ _ h5) rfl rfl ?_
  refine rn tk 1 rfl ?_
  refine wq (ev_irem rfl rfl rfl) rfl rfl rfl ?_
  obtain ⟨v6, h7, hr⟩ := bind_some hr
  refine cl (R_Digits_r5_run _ _ h7) rfl rfl ?_
  obtain ⟨v8, h9, hr⟩ := bind_some hr
  refine wc h9 rfl rfl rfl ?_
  refine rn tk 4 rfl ?_
  cases hr
  exact kr tk (.inr rfl) rfl rfl
private theorem R_Digits_r7_run (a0 : Int) (r : Str) (hr : R_Digits_r7 a0 = some r) : Run Tryz.prog 22 [.i a0] (.s r) := by
 unfold R_Digits_r7 at hr
 refine rf (fn := Tryz.f22) ⟨Tryz.func22, rfl, by kernel_rfl⟩ rfl (fun _ => rfl) fun g0 hg => ?_
 refine rn tk 12 rfl ?_
 refine ac 4 hr rfl (fun c1 hr => ?_) (fun c1 hr => ?_)
 ·
  refine rn tk 5 rfl ?_
  obtain ⟨v2, h3, hr⟩ := bind_some hr
  refine wscLH tk h3 rfl rfl rfl rfl rfl ?_
  refine rn tk 5 rfl ?_
  cases hr
  exact kr tk (.inr rfl) rfl rfl
 ·
  refine rn tk 5 rfl ?_
  refine wq (ev_iquo rfl rfl rfl) rfl rfl rfl ?_
  obtain ⟨v4, h5, hr⟩ := bind_some hr
  refine cl (R_Digits_r6_run _ _ h5) rfl rfl ?_
  refine rn tk 1 rfl ?_
  refine wq (ev_irem rfl rfl rfl) rfl rfl rfl ?_
  obtain ⟨v6, h7, hr⟩ := bind_some hr
  refine cl (R_Digits_r6_run _ _ h7) rfl rfl ?_
  obtain ⟨v8, h9, hr⟩ := bind_some hr
  refine wc h9 rfl rfl rfl ?_
  refine rn tk 4 rfl ?_
  cases hr
  exact kr tk (.inr rfl) rfl rfl
private theorem R_Digits_r8_run (a0 : Int) (r : Str) (hr : R_Digits_r8 a0 = some r) : Run Tryz.prog 22 [.i a0] (.s r) := by
 unfold R_Digits_r8 at hr
 refine rf (fn := Tryz.f22) ⟨Tryz.func22, rfl, by kernel_rfl⟩ rfl (fun _ => rfl) fun g0 hg => ?_
 refine rn tk 12 rfl ?_
 refine ac 4 hr rfl (fun c1 hr => ?_) (fun c1 hr => ?_)
 ·
  refine rn tk 5 rfl ?_
  obtain ⟨v2, h3, hr⟩ := bind_some hr
  refine wscLH tk h3 rfl rfl rfl rfl rfl ?_
  refine rn tk 5 rfl ?_
  cases hr
  exact kr tk (.inr rfl) rfl rfl
 ·
  refine rn tk 5 rfl ?_
  refine wq (ev_iquo rfl rfl rfl) rfl rfl rfl ?_
  obtain ⟨v4, h5, hr⟩ := bind_some hr
  refine cl (R_Digits_r7_run _ _ h5) rfl rfl ?_
  refine rn tk 1 rfl ?_
  refine wq (ev_irem rfl rfl rfl) rfl rfl rfl ?_
  obtain ⟨v6, h7, hr⟩ := bind_some hr
  refine cl (R_Digits_r7_run _ _ h7) rfl rfl ?_
  obtain ⟨v8, h9, hr⟩ := bind_some hr
  refine wc h9 rfl rfl rfl ?_
  refine rn tk 4 rfl ?_
  cases hr
  exact kr tk (.inr rfl) rfl rfl
private theorem R_Digits_r9_run (a0 : Int) (r : Str) (hr : R_Digits_r9 a0 = some r) : Run Tryz.prog 22 [.i a0] (.s r) := by
 unfold R_Digits_r9 at hr
 refine rf (fn := Tryz.f22) ⟨Tryz.func22, rfl, by kernel_rfl⟩ rfl (fun _ => rfl) fun g0 hg => ?_
 refine rn tk 12 rfl ?_
 refine ac 4 hr rfl (fun c1 hr => ?_) (fun c1 hr => ?_)
 ·
  refine rn tk 5 rfl ?_
  obtain ⟨v2, h3, hr⟩ := bind_some hr
  refine wscLH tk h3 rfl rfl rfl rfl rfl ?_
  refine rn tk 5 rfl ?_
  cases hr
  exact kr tk (.inr rfl) rfl rfl
 ·
  refine rn tk 5 rfl ?_
  refine wq (ev_iquo rfl rfl rfl) rfl rfl rfl ?_
  obtain ⟨v4, h5, hr⟩ := bind_some hr
  refine cl (R_Digits_r8_run _ _ h5) rfl rfl ?_
  refine rn tk 1 rfl ?_
  refine wq (ev_irem rfl rfl rfl) rfl rfl rfl ?_
  obtain ⟨v6, h7, hr⟩ := bind_some hr
  refine cl (R_Digits_r8_run _ _ h7) rfl rfl ?_
  obtain ⟨v8, h9, hr⟩ := bind_some hr
  refine wc h9 rfl rfl rfl ?_
  refine rn tk 4 rfl ?_
  cases hr
  exact kr tk (.inr rfl) rfl rfl
private theorem R_Digits_r10_run (a0 : Int) (r : Str) (hr : R_Digits_r10 a0 = some r) : Run Tryz.prog 22 [.i a0] (.s r) := by
 unfold R_Digits_r10 at hr
 refine rf (fn := Tryz.f22) ⟨Tryz.func22, rfl, by kernel_rfl⟩ rfl (fun _ => rfl) fun g0 hg => ?_
 refine rn tk 12 rfl ?_
 refine ac 4 hr rfl (fun c1 hr => ?_) (fun c1 hr => ?_)
 ·
  refine rn tk 5 rfl ?_
  obtain ⟨v2, h3, hr⟩ := bind_some hr
  refine wscLH tk h3 rfl rfl rfl rfl rfl ?_
  refine rn tk 5 rfl ?_
  cases hr
  exact kr tk (.inr rfl) rfl rfl
 ·
  refine rn tk 5 rfl ?_
  refine wq (ev_iquo rfl rfl rfl) rfl rfl rfl ?_
  obtain ⟨v4, h5, hr⟩ := bind_some hr
  refine cl (R_Digits_r9_run _ _ h5) rfl rfl ?_
  refine rn tk 1 rfl ?_
  refine wq (ev_irem rfl rfl rfl) rfl rfl rfl ?_
  obtain ⟨v6, h7, hr⟩ := bind_some hr
  refine cl (R_Digits_r9_run _ _ h7) rfl rfl ?_
  obtain ⟨v8, h9, hr⟩ := bind_some hr
  refine wc h9 rfl rfl rfl ?_
  refine rn tk 4 rfl ?_
  cases hr
  exact kr tk (.inr rfl) rfl rfl
private theorem R_Digits_r11_run (a0 : Int) (r : Str) (hr : R_Digits_r11 a0 = some r) : Run Tryz.prog 22 [.i a0] (.s r) := by
 unfold R_Digits_r11 at hr
 refine rf (fn := Tryz.f22) ⟨Tryz.func22, rfl, by kernel_rfl⟩ rfl (fun _ => rfl) fun g0 hg => ?_
 refine rn tk 12 rfl ?_
 refine ac 4 hr rfl (fun c1 hr => ?_) (fun c1 hr => ?_)
 ·
  refine rn tk 5 rfl ?_
  obtain ⟨v2, h3, hr⟩ := bind_some hr
  refine wscLH tk h3 rfl rfl rfl rfl rfl ?_
  refine rn tk 5 rfl ?_
  cases hr
  exact kr tk (.inr rfl) rfl rfl
 ·
  refine rn tk 5 rfl ?_
  refine wq (ev_iquo rfl rfl rfl) rfl rfl rfl ?_
  obtain ⟨v4, h5, hr⟩ := bind_some hr
  refine cl (R_Digits_r10_run _ _ h5) rfl rfl ?_
  refine rn tk 1 rfl ?_
  refine wq (ev_irem rfl rfl rfl) rfl rfl rfl ?_
  obtain ⟨v6, h7, hr⟩ := bind_some hr
  refine cl (R_Digits_r10_run _ _ h7) rfl rfl ?_
  obtain ⟨v8, h9, hr⟩ := bind_some hr
  refine wc h9 rfl rfl rfl ?_
  refine rn tk 4 rfl ?_
  cases hr
  exact kr tk (.inr rfl) rfl rfl
theorem R_Digits_run (a0 : Int) (r : Str) (hr : R_Digits a0 = some r) : Run Tryz.prog 22 [.i a0] (.s r) := by
 unfold R_Digits at hr
 refine rf (fn := Tryz.f22) ⟨Tryz.func22, rfl, by kernel_rfl⟩ rfl (fun _ => rfl) fun g0 hg => ?_
 refine rn tk 12 rfl ?_
 refine ac 4 hr rfl (fun c1 hr => ?_) (fun c1 hr => ?_)
 ·
  refine rn tk 5 rfl ?_
  obtain ⟨v2, h3, hr⟩ := bind_some hr
  refine wscLH tk h3 rfl rfl rfl rfl rfl ?_
  refine rn tk 5 rfl ?_
  cases hr
  exact kr tk (.inr rfl) rfl rfl
 ·
  refine rn tk 5 rfl ?_
  refine wq (ev_iquo rfl rfl rfl) rfl rfl rfl ?_
  obtain ⟨v4, h5, hr⟩ := bind_some hr
  refine cl (R_Digits_r11_run _ _ h5) rfl rfl ?_
  refine rn tk 1 rfl ?_
  refine wq (ev_irem rfl rfl rfl) rfl rfl rfl ?_
  obtain ⟨v6, h7, hr⟩ := bind_some hr
  refine cl (R_Digits_r11_run _ _ h7) rfl rfl ?_
  obtain ⟨v8, h9, hr⟩ := bind_some hr
  refine wc h9 rfl rfl rfl ?_
  refine rn tk 4 rfl ?_
  cases hr
  exact kr tk (.inr rfl) rfl rfl
theorem R_verb_run (a0 : Int) (r : Str) (hr : R_verb a0 = some r) : Run Tryz.prog 21 [.i a0] (.s r) := by
 unfold R_verb at hr
 refine rf (fn := Tryz.f21) ⟨Tryz.func21, rfl, by kernel_rfl⟩ rfl (fun _ => rfl) fun g0 hg => ?_
 refine rn tk 7 rfl ?_
 refine wz cS ([([104, 101, 108, 108, 111] : Str), ([109, 97, 105, 108] : Str), ([114, 99, 112, 116] : Str), ([100, 97, 116, 97] : Str), ([99, 104, 117, 110, 107] : Str), ([114, 101, 115, 101, 116] : Str), ([110, 111, 111, 112] : Str), ([113, 117, 105, 116] : Str)] : List Str) tk rfl rfl (fun _ => rfl) rfl (by kernel_rfl) rfl ?_
 refine rn tk 8 rfl ?_
 obtain ⟨v1, h2, hr⟩ := bind_some hr
 refine wi tk h2 rfl rfl rfl rfl rfl ?_
 refine rn tk 5 rfl ?_
 cases hr
 exact kr tk (.inr rfl) rfl rfl
theorem R_CommandText_run (a0 : TCommand) (r : Str) (hr : R_CommandText a0 = some r) : Run Tryz.prog 7 [.agg [.i a0.Verb, .s a0.Name, .s a0.Address, .i a0.Size, .i a0.Notify, .bo a0.Last]] (.s r) := by
 unfold R_CommandText at hr
 refine rf (fn := Tryz.f7) ⟨Tryz.func7, rfl, by kernel_rfl⟩ rfl (fun _ => rfl) fun g0 hg => ?_
 refine rn tk 10 rfl ?_
 obtain ⟨v1, h2, hr⟩ := bind_some hr
 refine cl (R_verb_run _ _ h2) rfl rfl ?_
 refine rn tk 3 rfl ?_
 refine jb hr (fun j3 => [(3, .s j3)]) (fun j3 => []) (fun j3 hr => ?_) (fun j3 hr => ?_)
 ·
  refine rn tk 13 rfl ?_
  refine ac 9 hr rfl (fun c4 hr => ?_) (fun c4 hr => ?_)
  ·
   refine rn tk 2 rfl ?_
   obtain ⟨v5, h6, hr⟩ := bind_some hr
   refine wc h6 rfl rfl rfl ?_
   refine rn tk 2 rfl ?_
   obtain ⟨v7, h8, hr⟩ := bind_some hr
   refine wc h8 rfl rfl rfl ?_
   refine rn tk 3 rfl ?_
   cases hr
   exact jn _ rfl rfl rfl
  ·
   refine rn tk 6 rfl ?_
   refine ac 16 hr rfl (fun c9 hr => ?_) (fun c9 hr => ?_)
   ·
    refine rn tk 3 rfl ?_
    obtain ⟨v10, h11, hr⟩ := bind_some hr
    refine wc h11 rfl rfl rfl ?_
    refine rn tk 2 rfl ?_
    obtain ⟨v12, h13, hr⟩ := bind_some hr
    refine wc h13 rfl rfl rfl ?_
    obtain ⟨v14, h15, hr⟩ := bind_some hr
    refine wc h15 rfl rfl rfl ?_
    refine rn tk 10 rfl ?_
    refine ac 26 hr rfl (fun c16 hr => ?_) (fun c16 hr => ?_)
    ·
     refine rn tk 2 rfl ?_
     obtain ⟨v17, h18, hr⟩ := bind_some hr
     refine wc h18 rfl rfl rfl ?_
     refine rn tk 2 rfl ?_
     obtain ⟨v19, h20, hr⟩ := bind_some hr
     refine cl (R_Digits_run _ _ h20) rfl rfl ?_
     obtain ⟨v21, h22, hr⟩ := bind_some hr
     refine wc h22 rfl rfl rfl ?_
     refine rn tk 3 rfl ?_
     cases hr
     exact jn _ rfl rfl rfl
    ·
     refine rn tk 2 rfl ?_
     cases hr
     exact jn _ rfl rfl rfl
   ·
    refine rn tk 6 rfl ?_
    refine ac 33 hr rfl (fun c23 hr => ?_) (fun c23 hr => ?_)
    ·
     refine rn tk 3 rfl ?_
     obtain ⟨v24, h25, hr⟩ := bind_some hr
     refine wc h25 rfl rfl rfl ?_
     refine rn tk 2 rfl ?_
     obtain ⟨v26, h27, hr⟩ := bind_some hr
     refine wc h27 rfl rfl rfl ?_
     obtain ⟨v28, h29, hr⟩ := bind_some hr
     refine wc h29 rfl rfl rfl ?_
     refine rn tk 10 rfl ?_
     refine ac 43 hr rfl (fun c30 hr => ?_) (fun c30 hr => ?_)
     ·
      refine rn tk 2 rfl ?_
      obtain ⟨v31, h32, hr⟩ := bind_some hr
      refine wc h32 rfl rfl rfl ?_
      refine rn tk 2 rfl ?_
      obtain ⟨v33, h34, hr⟩ := bind_some hr
      refine cl (R_Conditions_run _ _ h34) rfl rfl ?_
      obtain ⟨v35, h36, hr⟩ := bind_some hr
      refine wc h36 rfl rfl rfl ?_
      refine rn tk 3 rfl ?_
      cases hr
      exact jn _ rfl rfl rfl
     ·
      refine rn tk 2 rfl ?_
      cases hr
      exact jn _ rfl rfl rfl
    ·
     refine rn tk 6 rfl ?_
     refine ac 50 hr rfl (fun c37 hr => ?_) (fun c37 hr => ?_)
     ·
      refine rn tk 3 rfl ?_
      obtain ⟨v38, h39, hr⟩ := bind_some hr
      refine wc h39 rfl rfl rfl ?_
      refine rn tk 2 rfl ?_
      obtain ⟨v40, h41, hr⟩ := bind_some hr
      refine cl (R_Digits_run _ _ h41) rfl rfl ?_
      obtain ⟨v42, h43, hr⟩ := bind_some hr
      refine wc h43 rfl rfl rfl ?_
      refine rn tk 9 rfl ?_
      refine ac 59 hr rfl (fun c44 hr => ?_) (fun c44 hr => ?_)
      ·
       refine rn tk 2 rfl ?_
       obtain ⟨v45, h46, hr⟩ := bind_some hr
       refine wc h46 rfl rfl rfl ?_
       refine rn tk 3 rfl ?_
       cases hr
       exact jn _ rfl rfl rfl
      ·
       refine rn tk 2 rfl ?_
       cases hr
       exact jn _ rfl rfl rfl
     ·
      refine rn tk 2 rfl ?_
      cases hr
      exact jn _ rfl rfl rfl
 ·
  refine rn tk 7 rfl ?_
  cases hr
  exact kr tk (.inr rfl) rfl rfl
theorem L_CommandMatchesSpec_run (a0 : TCommand) (r : Bool) (hr : L_CommandMatchesSpec a0 = some r) : Run Tryz.prog 3 [.agg [.i a0.Verb, .s a0.Name, .s a0.Address, .i a0.Size, .i a0.Notify, .bo a0.Last]] (.bo r) := by
 unfold L_CommandMatchesSpec at hr
 refine rf (fn := Tryz.f3) ⟨Tryz.func3, rfl, by kernel_rfl⟩ rfl (fun _ => rfl) fun g0 hg => ?_
 refine rn tk 9 rfl ?_
 obtain ⟨v1, h2, hr⟩ := bind_some hr
 refine cl (R_CommandFault_run _ _ h2) rfl rfl ?_
 refine rn tk 7 rfl ?_
 obtain ⟨v3, h4, hr⟩ := bind_some hr
 refine cl (command_Print_run _ _ h4) rfl rfl ?_
 refine rn tk 13 rfl ?_
 refine jb hr (fun j5 => [(1, .ptr 1 0), (3, .ptr 3 0), (4, .s v3.1), (5, .ptr 5 0), (6, .s j5)]) (fun j5 => [(5, .cells [.i v3.2.Code, .i v3.2.Index]), (3, .cells [.i v1.Code, .i v1.Index]), (1, .cells [.i a0.Verb, .s a0.Name, .s a0.Address, .i a0.Size, .i a0.Notify, .bo a0.Last])]) (fun j5 hr => ?_) (fun j5 hr => ?_)
 ·
  refine rn tk 7 rfl ?_
  refine ac 16 hr rfl (fun c6 hr => ?_) (fun c6 hr => ?_)
  ·
   refine rn tk 2 rfl ?_
   obtain ⟨v7, h8, hr⟩ := bind_some hr
   refine cl (R_CommandText_run _ _ h8) rfl rfl ?_
   refine rn tk 2 rfl ?_
   cases hr
   exact jn _ rfl rfl rfl
  ·
   refine rn tk 1 rfl ?_
   cases hr
   exact jn _ rfl rfl rfl
 ·
  refine jb hr (fun j9 => [(2, .bo j9)]) (fun j9 => []) (fun j9 hr => ?_) (fun j9 hr => ?_)
  ·
   obtain ⟨v10, h11, hr⟩ := bind_some hr
   refine bool_split v10 (fun c12 => ?_) (fun c12 => ?_)
   ·
    replace hr := cond_t c12 hr
    obtain ⟨v13, h14, hr⟩ := bind_some hr
    refine bool_split ((allEq [(v13.Code == v1.Code), (v13.Index == v1.Index)])) (fun c15 => ?_) (fun c15 => ?_)
    ·
     replace hr := cond_t c15 hr
     refine bool_split ((allEq [(v3.2.Code == v1.Code), (v3.2.Index == v1.Index)])) (fun c16 => ?_) (fun c16 => ?_)
     ·
      replace hr := cond_t c16 hr
      refine dr 15 [(33, .s j5), (32, .s v3.1), (31, .bo ((allEq [(v3.2.Code == v1.Code), (v3.2.Index == v1.Index)]))), (30, .bo ((allEq [(v3.2.Code == v1.Code), (v3.2.Index == v1.Index)]))), (29, .bo ((allEq [(v3.2.Code == v1.Code), (v3.2.Index == v1.Index)]))), (28, .agg [.i v1.Code, .i v1.Index]), (27, .agg [.i v3.2.Code, .i v3.2.Index]), (26, .bo ((allEq [(v13.Code == v1.Code), (v13.Index == v1.Index)]))), (25, .bo ((allEq [(v13.Code == v1.Code), (v13.Index == v1.Index)]))), (24, .bo ((allEq [(v13.Code == v1.Code), (v13.Index == v1.Index)]))), (23, .agg [.i v1.Code, .i v1.Index]), (22, .agg [.i v13.Code, .i v13.Index]), (21, .agg [.i a0.Verb, .s a0.Name, .s a0.Address, .i a0.Size, .i a0.Notify, .bo a0.Last]), (20, .bo v10), (19, .bo v10)] mixed (by kernel_rfl) rfl rfl (.run (.plain rfl) (opG_call (L_commands_run  v10 h11) rfl) (pq tk rfl (.plain rfl) (pq tk rfl (.yes (d := 20) rfl rfl rfl c12) (.run (.yes (d := 20) rfl rfl rfl c12) (opG_call (command_Validate_run a0 v13 h14) rfl) (pq tk rfl (.yes (d := 20) rfl rfl rfl c12) (.run (.yes (d := 20) rfl rfl rfl c12) (opG_q (ev_structeq rfl rfl ty_api_Fault cmp_api_Fault (.int rfl (by decide) ty_int (.int rfl (by decide) ty_int .nil)))) (.run (.plain rfl) (opG_q (ev_pick_t rfl c12)) (pq tk rfl (.plain rfl) (pq tk rfl (.yes (d := 26) rfl rfl rfl c15) (pq tk rfl (.yes (d := 26) rfl rfl rfl c15) (.run (.yes (d := 26) rfl rfl rfl c15) (opG_q (ev_structeq rfl rfl ty_api_Fault cmp_api_Fault (.int rfl (by decide) ty_int (.int rfl (by decide) ty_int .nil)))) (.run (.plain rfl) (opG_q (ev_pick_t rfl c15)) (pq tk rfl (.plain rfl) (pq tk rfl (.yes (d := 31) rfl rfl rfl c16) (pq tk rfl (.yes (d := 31) rfl rfl rfl c16) .nil))))))))))))))) rfl ?_
      refine kn 31 c16 rfl ?_
      refine rn tk 4 rfl ?_
      cases hr
      exact jn _ rfl rfl rfl
     ·
      replace hr := cond_f c16 hr
      refine dr 15 [(33, .tup []), (32, .tup []), (31, .bo ((allEq [(v3.2.Code == v1.Code), (v3.2.Index == v1.Index)]))), (30, .bo ((allEq [(v3.2.Code == v1.Code), (v3.2.Index == v1.Index)]))), (29, .bo ((allEq [(v3.2.Code == v1.Code), (v3.2.Index == v1.Index)]))), (28, .agg [.i v1.Code, .i v1.Index]), (27, .agg [.i v3.2.Code, .i v3.2.Index]), (26, .bo ((allEq [(v13.Code == v1.Code), (v13.Index == v1.Index)]))), (25, .bo ((allEq [(v13.Code == v1.Code), (v13.Index == v1.Index)]))), (24, .bo ((allEq [(v13.Code == v1.Code), (v13.Index == v1.Index)]))), (23, .agg [.i v1.Code, .i v1.Index]), (22, .agg [.i v13.Code, .i v13.Index]), (21, .agg [.i a0.Verb, .s a0.Name, .s a0.Address, .i a0.Size, .i a0.Notify, .bo a0.Last]), (20, .bo v10), (19, .bo v10)] mixed (by kernel_rfl) rfl rfl (.run (.plain rfl) (opG_call (L_commands_run  v10 h11) rfl) (pq tk rfl (.plain rfl) (pq tk rfl (.yes (d := 20) rfl rfl rfl c12) (.run (.yes (d := 20) rfl rfl rfl c12) (opG_call (command_Validate_run a0 v13 h14) rfl) (pq tk rfl (.yes (d := 20) rfl rfl rfl c12) (.run (.yes (d := 20) rfl rfl rfl c12) (opG_q (ev_structeq rfl rfl ty_api_Fault cmp_api_Fault (.int rfl (by decide) ty_int (.int rfl (by decide) ty_int .nil)))) (.run (.plain rfl) (opG_q (ev_pick_t rfl c12)) (pq tk rfl (.plain rfl) (pq tk rfl (.yes (d := 26) rfl rfl rfl c15) (pq tk rfl (.yes (d := 26) rfl rfl rfl c15) (.run (.yes (d := 26) rfl rfl rfl c15) (opG_q (ev_structeq rfl rfl ty_api_Fault cmp_api_Fault (.int rfl (by decide) ty_int (.int rfl (by decide) ty_int .nil)))) (.run (.plain rfl) (opG_q (ev_pick_t rfl c15)) (pq tk rfl (.plain rfl) (.skip (.no (d := 31) rfl rfl rfl c16) (.skip (.no (d := 31) rfl rfl rfl c16) .nil))))))))))))))) rfl ?_
      refine kn 31 c16 rfl ?_
      refine rn tk 4 rfl ?_
      cases hr
      exact jn _ rfl rfl rfl
    ·
     replace hr := cond_f c15 hr
     refine dr 15 [(33, .tup []), (32, .tup []), (31, .bo false), (30, .bo false), (29, .tup []), (28, .tup []), (27, .tup []), (26, .bo ((allEq [(v13.Code == v1.Code), (v13.Index == v1.Index)]))), (25, .bo ((allEq [(v13.Code == v1.Code), (v13.Index == v1.Index)]))), (24, .bo ((allEq [(v13.Code == v1.Code), (v13.Index == v1.Index)]))), (23, .agg [.i v1.Code, .i v1.Index]), (22, .agg [.i v13.Code, .i v13.Index]), (21, .agg [.i a0.Verb, .s a0.Name, .s a0.Address, .i a0.Size, .i a0.Notify, .bo a0.Last]), (20, .bo v10), (19, .bo v10)] mixed (by kernel_rfl) rfl rfl (.run (.plain rfl) (opG_call (L_commands_run  v10 h11) rfl) (pq tk rfl (.plain rfl) (pq tk rfl (.yes (d := 20) rfl rfl rfl c12) (.run (.yes (d := 20) rfl rfl rfl c12) (opG_call (command_Validate_run a0 v13 h14) rfl) (pq tk rfl (.yes (d := 20) rfl rfl rfl c12) (.run (.yes (d := 20) rfl rfl rfl c12) (opG_q (ev_structeq rfl rfl ty_api_Fault cmp_api_Fault (.int rfl (by decide) ty_int (.int rfl (by decide) ty_int .nil)))) (.run (.plain rfl) (opG_q (ev_pick_t rfl c12)) (pq tk rfl (.plain rfl) (.skip (.no (d := 26) rfl rfl rfl c15) (.skip (.no (d := 26) rfl rfl rfl c15) (.skip (.no (d := 26) rfl rfl rfl c15) (.run (.plain rfl) (opG_q (ev_pick_f rfl c15)) (pq tk rfl (.plain rfl) (.skip (.no (d := 31) rfl rfl rfl rfl) (.skip (.no (d := 31) rfl rfl rfl rfl) .nil))))))))))))))) rfl ?_
     refine rn tk 4 rfl ?_
     cases hr
     exact jn _ rfl rfl rfl
   ·
    replace hr := cond_f c12 hr
    refine dr 15 [(33, .tup []), (32, .tup []), (31, .bo false), (30, .bo false), (29, .tup []), (28, .tup []), (27, .tup []), (26, .bo false), (25, .bo false), (24, .tup []), (23, .tup []), (22, .tup []), (21, .tup []), (20, .bo v10), (19, .bo v10)] mixed (by kernel_rfl) rfl rfl (.run (.plain rfl) (opG_call (L_commands_run  v10 h11) rfl) (pq tk rfl (.plain rfl) (.skip (.no (d := 20) rfl rfl rfl c12) (.skip (.no (d := 20) rfl rfl rfl c12) (.skip (.no (d := 20) rfl rfl rfl c12) (.skip (.no (d := 20) rfl rfl rfl c12) (.run (.plain rfl) (opG_q (ev_pick_f rfl c12)) (pq tk rfl (.plain rfl) (.skip (.no (d := 26) rfl rfl rfl rfl) (.skip (.no (d := 26) rfl rfl rfl rfl) (.skip (.no (d := 26) rfl rfl rfl rfl) (pq tk rfl (.plain rfl) (pq tk rfl (.plain rfl) (.skip (.no (d := 31) rfl rfl rfl rfl) (.skip (.no (d := 31) rfl rfl rfl rfl) .nil))))))))))))))) rfl ?_
    refine rn tk 4 rfl ?_
    cases hr
    exact jn _ rfl rfl rfl
  ·
   refine rn tk 1 rfl ?_
   cases hr
   exact kr tk (.inr rfl) rfl rfl
end Go.Proofs.YtgbahimpdoahbaaGreatDoor

namespace Go.Proofs.YtgbahimpdoahbaaGreatDoor.commandMatchesSpec
open Go.ChangeShapes Go.WideShapes Go.ChangeAt Go.RowKit
set_option linter.unusedVariables false
set_option maxRecDepth 100000

theorem contract (H : Type) (enc : TypeId × Value → H) (W : World) (base : Nat) (args : Array Value) (ds gs : List (DataW H)) (before : List MemPlace)
    (hval : ∀ (j : Nat) t v, Tryz.f3.params[j]? = some t → args[j]? = some v → Value.okWide Tryz.prog W .any base t v)
    (hW : DataW.Whole enc Tryz.prog Tryz.f3.params.toList Rows.commandMatchesSpecSpec.vars false W args.toList ds gs before) (hk : Rows.uptoSmall H (ds ++ gs) = true) (hgl : Gl (gAll W)) :
    Calls Tryz.prog 3 args W fun e W' => ∃ v, e = .returned v ∧ Rows.commandMatchesSpecSpec.post enc Tryz.prog Tryz.f3 false true false false W args v W' := by
  have hW' := hW
  obtain ⟨p, q, hA0, hV, rfl, hfz, hnd⟩ := hW
  have hA : DataW.TrodAll enc Tryz.prog W 0 (fun _ => true) true Tryz.f3.params.toList args.toList ds p := hA0
  rw [Tryz.params3] at hA hval
  obtain ⟨v0, vs0, d0, ds0, p0, q0, hargs, rfl, rfl, h0, r0⟩ := trodAll_cons hA
  obtain ⟨rfl, rfl, rfl⟩ := trodAll_nil r0
  obtain rfl : args = #[v0] := by cases args; simp_all
  obtain ⟨rfl, rfl⟩ := trodVars_none hV
  obtain ⟨a0, e0, o0, k0⟩ := arg_agg op_api_Command (by obtain ⟨cs, h, _⟩ := okWide_struct ty_api_Command.u (hval 0 _ v0 rfl rfl); exact ⟨cs, h⟩) h0
  have hk2 := of_decide_eq_true hk
  simp only [List.append_nil, Rows.uptoBulkAll] at hk2
  have ht := L_CommandMatchesSpec_true a0 o0 (by (try dsimp only); omega)
  have key : Calls Tryz.prog 3 #[v0] W fun e W' => e = .returned (.bool true) ∧ Below W.heap.size W W' := calls_of_run (L_CommandMatchesSpec_run a0 true ht) hgl (relArgs_of (.cons e0 .nil))
  refine key.mono fun e W' ⟨he, hb⟩ => ⟨_, he, ?_⟩
  exact post_true laidOut (by kernel_rfl) Tryz.underlying4 (by kernel_rfl) rfl rfl hW' hb

/-- a world for the witness -/
noncomputable def wit (os : Os) : World := World.doorLaid Tryz.prog 62 os
theorem reads (os : Os) {H : Type} (enc : TypeId × Value → H) : ∃ places, DataW.whole enc Tryz.prog ((wit os).forCall (fun _ _ => 0) ⟨#[], #[.agg #[.int .i64 0, .string ⟨#[]⟩, .string ⟨#[]⟩, .int .i64 0, .int .i64 0, .bool false]], []⟩).memory Tryz.f3.params.toList (Rows.OpenSpec.upto Rows.commandMatchesSpecSpec).vars false (#[.agg #[.int .i64 0, .string ⟨#[]⟩, .string ⟨#[]⟩, .int .i64 0, .int .i64 0, .bool false]] : Array Value).toList 8 = some ([.agg [.lit (.int .i64 0), .lit (.string []), .lit (.string []), .lit (.int .i64 0), .lit (.int .i64 0), .lit (.bool false)]], [], places) :=
  ⟨[], by kernel_rfl⟩
theorem lifted (os : Os) (started : os.Started) (H : Type) (enc : TypeId × Value → H) (F : Stop.Interp) :
    ReturnsInHanded {} Tryz.checked os 3 .any ((Rows.OpenSpec.upto Rows.commandMatchesSpecSpec).preRow enc Tryz.prog Tryz.f3 Rows.commandMatchesSpecUptoRow.domain false Rows.commandMatchesSpecUptoRow.laid) (((Rows.OpenSpec.upto Rows.commandMatchesSpecSpec).at F).post enc Tryz.prog Tryz.f3 false true false false) := by
  obtain ⟨places, hx⟩ := reads os enc
  refine returnsInHanded_of_row (C := Tryz.checked) (s := Rows.OpenSpec.upto Rows.commandMatchesSpecSpec) own started (by kernel_rfl) Tryz.func3
    (witness_row_atRef (enc := enc) (C := Tryz.checked) false (wit os) #[.agg #[.int .i64 0, .string ⟨#[]⟩, .string ⟨#[]⟩, .int .i64 0, .int .i64 0, .bool false]] rfl (by kernel_rfl) (by kernel_rfl) (by kernel_rfl)
      (OpenSpec.preRow_of_cond 8 hx (by kernel_rfl) (fun k hk => by cases hk; kernel_rfl) (by kernel_rfl) (laidMet_of_run' 8 (by kernel_rfl) (by kernel_rfl)))) ?_
  intro W base args ds gs before hval hW _ hk _ hL hsh _
  exact contract H enc W base args ds gs before hval hW (hk _ rfl) (gl_of_laid (rest := Rows.commandMatchesSpecUptoRow.laid.drop 3) hsh (by kernel_rfl) hL (fun hm => gi_of_laid hm.tail.tail.tail.tail))

theorem j0 : jf0 Tryz.pinned.checked.prog 3 Tryz.f3 (Rows.OpenSpec.upto Rows.commandMatchesSpecSpec).bare Rows.commandMatchesSpecUptoRow = true := by kernel_rfl
theorem j1 : jf1 Tryz.pinned.checked.prog 3 Tryz.f3 (Rows.OpenSpec.upto Rows.commandMatchesSpecSpec).bare Rows.commandMatchesSpecUptoRow = true := by kernel_rfl
theorem j2 : jf2 Tryz.pinned.checked.prog 3 Tryz.f3 (Rows.OpenSpec.upto Rows.commandMatchesSpecSpec).bare Rows.commandMatchesSpecUptoRow = true := by kernel_rfl
theorem j3 : jf3 Tryz.pinned.checked.prog 3 Tryz.f3 (Rows.OpenSpec.upto Rows.commandMatchesSpecSpec).bare Rows.commandMatchesSpecUptoRow = true := by kernel_rfl
theorem j4 : jf4 Tryz.pinned.checked.prog 3 Tryz.f3 (Rows.OpenSpec.upto Rows.commandMatchesSpecSpec).bare Rows.commandMatchesSpecUptoRow = true := by kernel_rfl
theorem j5 : jf5 Tryz.pinned.checked.prog 3 Tryz.f3 (Rows.OpenSpec.upto Rows.commandMatchesSpecSpec).bare Rows.commandMatchesSpecUptoRow = true := by kernel_rfl
theorem j6 : jf6 Tryz.pinned.checked.prog 3 Tryz.f3 (Rows.OpenSpec.upto Rows.commandMatchesSpecSpec).bare Rows.commandMatchesSpecUptoRow = true := by kernel_rfl
theorem j7 : jf7 Tryz.pinned.checked.prog 3 Tryz.f3 (Rows.OpenSpec.upto Rows.commandMatchesSpecSpec).bare Rows.commandMatchesSpecUptoRow = true := by kernel_rfl
theorem j8 : jf8 Tryz.pinned.checked.prog 3 Tryz.f3 (Rows.OpenSpec.upto Rows.commandMatchesSpecSpec).bare Rows.commandMatchesSpecUptoRow = true := by kernel_rfl
theorem j9 : jf9 Tryz.pinned.checked.prog 3 Tryz.f3 (Rows.OpenSpec.upto Rows.commandMatchesSpecSpec).bare Rows.commandMatchesSpecUptoRow = true := by kernel_rfl
theorem j10 : jf10 Tryz.pinned.checked.prog 3 Tryz.f3 (Rows.OpenSpec.upto Rows.commandMatchesSpecSpec).bare Rows.commandMatchesSpecUptoRow = true := by kernel_rfl
theorem j11 : jf11 Tryz.pinned.checked.prog 3 Tryz.f3 (Rows.OpenSpec.upto Rows.commandMatchesSpecSpec).bare Rows.commandMatchesSpecUptoRow = true := by kernel_rfl
theorem j12 : jf12 Tryz.pinned.checked.prog 3 Tryz.f3 (Rows.OpenSpec.upto Rows.commandMatchesSpecSpec).bare Rows.commandMatchesSpecUptoRow = true := by kernel_rfl
theorem j13 : jf13 Tryz.pinned.checked.prog 3 Tryz.f3 (Rows.OpenSpec.upto Rows.commandMatchesSpecSpec).bare Rows.commandMatchesSpecUptoRow = true := by kernel_rfl
theorem j14 : jf14 Tryz.pinned.checked.prog 3 Tryz.f3 (Rows.OpenSpec.upto Rows.commandMatchesSpecSpec).bare Rows.commandMatchesSpecUptoRow = true := by kernel_rfl
theorem j15 : jf15 Tryz.pinned.checked.prog 3 Tryz.f3 (Rows.OpenSpec.upto Rows.commandMatchesSpecSpec).bare Rows.commandMatchesSpecUptoRow = true := by kernel_rfl
theorem j16 : jf16 Tryz.pinned.checked.prog 3 Tryz.f3 (Rows.OpenSpec.upto Rows.commandMatchesSpecSpec).bare Rows.commandMatchesSpecUptoRow = true := by kernel_rfl
theorem j17 : jf17 Tryz.pinned.checked.prog 3 Tryz.f3 (Rows.OpenSpec.upto Rows.commandMatchesSpecSpec).bare Rows.commandMatchesSpecUptoRow = true := by kernel_rfl
theorem j18 : jf18 Tryz.pinned.checked.prog 3 Tryz.f3 (Rows.OpenSpec.upto Rows.commandMatchesSpecSpec).bare Rows.commandMatchesSpecUptoRow = true := by kernel_rfl
theorem j19 : jf19 Tryz.pinned.checked.prog 3 Tryz.f3 (Rows.OpenSpec.upto Rows.commandMatchesSpecSpec).bare Rows.commandMatchesSpecUptoRow = true := by kernel_rfl
theorem j20 : jf20 Tryz.pinned.checked.prog 3 Tryz.f3 (Rows.OpenSpec.upto Rows.commandMatchesSpecSpec).bare Rows.commandMatchesSpecUptoRow = true := by kernel_rfl
theorem j21 : jf21 Tryz.pinned.checked.prog 3 Tryz.f3 (Rows.OpenSpec.upto Rows.commandMatchesSpecSpec).bare Rows.commandMatchesSpecUptoRow = true := by kernel_rfl
theorem j22 : jf22 Tryz.pinned.checked.prog 3 Tryz.f3 (Rows.OpenSpec.upto Rows.commandMatchesSpecSpec).bare Rows.commandMatchesSpecUptoRow = true := by kernel_rfl
theorem j23 : jf23 Tryz.pinned.checked.prog 3 Tryz.f3 (Rows.OpenSpec.upto Rows.commandMatchesSpecSpec).bare Rows.commandMatchesSpecUptoRow = true := by kernel_rfl
theorem j24 : jf24 Tryz.pinned.checked.prog 3 Tryz.f3 (Rows.OpenSpec.upto Rows.commandMatchesSpecSpec).bare Rows.commandMatchesSpecUptoRow = true := by kernel_rfl
theorem j25 : jf25 Tryz.pinned.checked.prog 3 Tryz.f3 (Rows.OpenSpec.upto Rows.commandMatchesSpecSpec).bare Rows.commandMatchesSpecUptoRow = true := by kernel_rfl
theorem j26 : jf26 Tryz.pinned.checked.prog 3 Tryz.f3 (Rows.OpenSpec.upto Rows.commandMatchesSpecSpec).bare Rows.commandMatchesSpecUptoRow = true := by kernel_rfl
theorem j27 : jf27 Tryz.pinned.checked.prog 3 Tryz.f3 (Rows.OpenSpec.upto Rows.commandMatchesSpecSpec).bare Rows.commandMatchesSpecUptoRow = true := by kernel_rfl
theorem j28 : jf28 Tryz.pinned.checked.prog 3 Tryz.f3 (Rows.OpenSpec.upto Rows.commandMatchesSpecSpec).bare Rows.commandMatchesSpecUptoRow = true := by kernel_rfl
theorem j29 : jf29 Tryz.pinned.checked.prog 3 Tryz.f3 (Rows.OpenSpec.upto Rows.commandMatchesSpecSpec).bare Rows.commandMatchesSpecUptoRow = true := by kernel_rfl
theorem j30 : jf30 Tryz.pinned.checked.prog 3 Tryz.f3 (Rows.OpenSpec.upto Rows.commandMatchesSpecSpec).bare Rows.commandMatchesSpecUptoRow = true := by kernel_rfl
theorem j31 : jf31 Tryz.pinned.checked.prog 3 Tryz.f3 (Rows.OpenSpec.upto Rows.commandMatchesSpecSpec).bare Rows.commandMatchesSpecUptoRow = true := by kernel_rfl
theorem said : Rows.commandMatchesSpecUptoRow.holds Tryz.pinned (Rows.OpenSpec.upto Rows.commandMatchesSpecSpec) :=
  OpenClaim.holds_of_cond 3 Tryz.f3 rfl rfl rfl rfl rfl rfl rfl ⟨rfl, rfl, rfl, rfl, rfl⟩ rfl rfl rfl rfl rfl (by kernel_rfl) Tryz.func3 (joined_of j0 j1 j2 j3 j4 j5 j6 j7 j8 j9 j10 j11 j12 j13 j14 j15 j16 j17 j18 j19 j20 j21 j22 j23 j24 j25 j26 j27 j28 j29 j30 j31)
    (of_decide_eq_true (by kernel_rfl)) (by unfold Func.isWrapper; first | (rw [if_pos (by decide +kernel)]; kernel_rfl) | (rw [if_neg (by decide +kernel)]; exact ⟨rfl, rfl⟩))
    (fun os started H enc _ F => by rw [OpenClaim.pre_eq_preRow]; exact lifted os started H enc F)

theorem plain (f : FuncId) (fn : Func) (hf : Tryz.pinned.checked.prog.funcNamed "posthouse/posthouselaw3.CommandMatchesSpec" = some f) (hfn : Tryz.pinned.checked.prog.funcs[f]? = some fn) :
    true = Tryz.pinned.checked.prog.looks [] ∧ ∀ (j : Nat) t, fn.params[j]? = some t → Tryz.pinned.checked.prog.wantsStandIn t = false := by
  obtain rfl : f = 3 := Option.some.inj ((show Tryz.prog.funcNamed "posthouse/posthouselaw3.CommandMatchesSpec" = some 3 by kernel_rfl).symm.trans hf) |>.symm
  obtain rfl : fn = Tryz.f3 := (Option.some.inj (Tryz.func3.symm.trans hfn)).symm
  refine ⟨by kernel_rfl, fun j t ht => ?_⟩
  rw [Tryz.params3] at ht
  have hm := Array.mem_of_getElem? ht
  simp only [List.mem_toArray, List.mem_cons, List.not_mem_nil, or_false] at hm
  rcases hm with rfl
  · exact (show Tryz.prog.wantsStandIn 23 = false by kernel_rfl)
theorem proved : Rows.CommandMatchesSpecUptoCardSaid :=
  Claim7.holds_tied_plain_at .later [] _ _ _ _ said (fun _ h => by cases h) (by kernel_rfl) (fun _ h => by cases h) commandMatchesSpecUpto_row_tie rfl ⟨rfl, rfl⟩ (by kernel_rfl) rfl plain (by kernel_rfl)
#print axioms proved
end Go.Proofs.YtgbahimpdoahbaaGreatDoor.commandMatchesSpec
