/- The law BounceTellsEachOnce holds for every input of bulk up to the given bound: it returns true and leaves its arguments as they were. Written by program. -/
import Derived.Test.YtfkgmcilaiblfaaGreatDoorKBounceTellsEachOnce2
import Derived.Test.YtfkgmcilaiblfaaGreatDoorShelf
set_option linter.unusedVariables false
set_option linter.unusedSimpArgs false
namespace Go.Proofs.YtfkgmcilaiblfaaGreatDoor
open Go.RowKit
set_option maxRecDepth 100000
set_option maxHeartbeats 40000000
set_option linter.unusedVariables false
theorem dates_Validate_run (a0 : TDate) (r : TFault) (hr : dates_Validate a0 = some r) : Run Tryz.prog 98 [.agg [.i a0.Year, .i a0.Month, .i a0.Day, .i a0.Hour, .i a0.Minute, .i a0.Second, .i a0.Zone]] (.agg [.i r.Code, .i r.Index]) := by
 unfold dates_Validate at hr
 refine rf (fn := Tryz.f98) ⟨Tryz.func98, rfl, by kernel_rfl⟩ rfl (fun _ => rfl) fun g0 hg => ?_
 refine rn tk 6 rfl ?_
 refine jb hr (fun j1 => [(2, .ptr 2 0), (3, .bo j1)]) (fun j1 => [(2, .cells [.i 0, .i 0])]) (fun j1 hr => ?_) (fun j1 hr => ?_)
 ·
  obtain ⟨v2, h3, hr⟩ := bind_some hr
  refine bool_split v2 (fun c4 => ?_) (fun c4 => ?_)
  ·
   replace hr := cond_t c4 hr
   obtain ⟨v5, h6, hr⟩ := bind_some hr
   refine bool_split v5 (fun c7 => ?_) (fun c7 => ?_)
   ·
    replace hr := cond_t c7 hr
    obtain ⟨v8, h9, hr⟩ := bind_some hr
    refine dr 18 [(21, .i v8), (20, .i ((min ((max a0.Month 1)) 12))), (19, .i ((max a0.Month 1))), (18, .i a0.Month), (17, .ptr 1 1), (16, .i a0.Year), (15, .ptr 1 0), (14, .i a0.Day), (13, .ptr 1 2), (12, .bo v5), (11, .bo v5), (10, .bo v5), (9, .i a0.Month), (8, .ptr 1 1), (7, .bo v2), (6, .bo v2), (5, .i a0.Year), (4, .ptr 1 0)] mixed (by kernel_rfl) rfl rfl (pq tk rfl (.plain rfl) (pq tk rfl (.plain rfl) (.run (.plain rfl) (opG_call (dates_within_run a0.Year 1 4000 v2 h3) rfl) (pq tk rfl (.plain rfl) (pq tk rfl (.yes (d := 7) rfl rfl rfl c4) (pq tk rfl (.yes (d := 7) rfl rfl rfl c4) (.run (.yes (d := 7) rfl rfl rfl c4) (opG_call (dates_within_run a0.Month 1 12 v5 h6) rfl) (.run (.plain rfl) (opG_q (ev_pick_t rfl c4)) (pq tk rfl (.plain rfl) (pq tk rfl (.yes (d := 12) rfl rfl rfl c7) (pq tk rfl (.yes (d := 12) rfl rfl rfl c7) (pq tk rfl (.yes (d := 12) rfl rfl rfl c7) (pq tk rfl (.yes (d := 12) rfl rfl rfl c7) (pq tk rfl (.yes (d := 12) rfl rfl rfl c7) (pq tk rfl (.yes (d := 12) rfl rfl rfl c7) (.run (.yes (d := 12) rfl rfl rfl c7) (opG_q (ev_max rfl rfl)) (.run (.yes (d := 12) rfl rfl rfl c7) (opG_q (ev_min rfl rfl)) (.run (.yes (d := 12) rfl rfl rfl c7) (opG_call (dates_length_run a0.Year ((min ((max a0.Month 1)) 12)) v8 h9) rfl) .nil)))))))))))))))))) rfl ?_
    refine kn 12 c7 rfl ?_
    obtain ⟨v10, h11, hr⟩ := bind_some hr
    refine ug rfl rfl rfl ?_
    refine cl (dates_within_run _ _ _ _ h11) rfl rfl ?_
    refine rn tk 2 rfl ?_
    refine bs 24 hr rfl (fun c12 hr => ?_) (fun c12 hr => ?_)
    ·
     refine rn tk 2 rfl ?_
     obtain ⟨v13, h14, hr⟩ := bind_some hr
     refine ug rfl rfl rfl ?_
     refine cl (dates_within_run _ _ _ _ h14) rfl rfl ?_
     refine rn tk 2 rfl ?_
     refine bs 29 hr rfl (fun c15 hr => ?_) (fun c15 hr => ?_)
     ·
      refine rn tk 2 rfl ?_
      obtain ⟨v16, h17, hr⟩ := bind_some hr
      refine ug rfl rfl rfl ?_
      refine cl (dates_within_run _ _ _ _ h17) rfl rfl ?_
      refine rn tk 2 rfl ?_
      refine bs 34 hr rfl (fun c18 hr => ?_) (fun c18 hr => ?_)
      ·
       refine rn tk 2 rfl ?_
       obtain ⟨v19, h20, hr⟩ := bind_some hr
       refine ug rfl rfl rfl ?_
       refine cl (dates_within_run _ _ _ _ h20) rfl rfl ?_
       refine rn tk 2 rfl ?_
       refine bs 39 hr rfl (fun c21 hr => ?_) (fun c21 hr => ?_)
       ·
        refine rn tk 2 rfl ?_
        obtain ⟨v22, h23, hr⟩ := bind_some hr
        refine ug rfl rfl rfl ?_
        refine cl (dates_within_run _ _ _ _ h23) rfl rfl ?_
        refine rn tk 3 rfl ?_
        cases hr
        exact jn _ rfl rfl rfl
       ·
        refine rn tk 6 rfl ?_
        cases hr
        exact jn _ rfl rfl rfl
      ·
       refine rn tk 11 rfl ?_
       cases hr
       exact jn _ rfl rfl rfl
     ·
      refine rn tk 16 rfl ?_
      cases hr
      exact jn _ rfl rfl rfl
    ·
     refine rn tk 21 rfl ?_
     cases hr
     exact jn _ rfl rfl rfl
   ·
    replace hr := cond_f c7 hr
    refine dr 18 [(21, .tup []), (20, .tup []), (19, .tup []), (18, .tup []), (17, .tup []), (16, .tup []), (15, .tup []), (14, .tup []), (13, .tup []), (12, .bo v5), (11, .bo v5), (10, .bo v5), (9, .i a0.Month), (8, .ptr 1 1), (7, .bo v2), (6, .bo v2), (5, .i a0.Year), (4, .ptr 1 0)] mixed (by kernel_rfl) rfl rfl (pq tk rfl (.plain rfl) (pq tk rfl (.plain rfl) (.run (.plain rfl) (opG_call (dates_within_run a0.Year 1 4000 v2 h3) rfl) (pq tk rfl (.plain rfl) (pq tk rfl (.yes (d := 7) rfl rfl rfl c4) (pq tk rfl (.yes (d := 7) rfl rfl rfl c4) (.run (.yes (d := 7) rfl rfl rfl c4) (opG_call (dates_within_run a0.Month 1 12 v5 h6) rfl) (.run (.plain rfl) (opG_q (ev_pick_t rfl c4)) (pq tk rfl (.plain rfl) (.skip (.no (d := 12) rfl rfl rfl c7) (.skip (.no (d := 12) rfl rfl rfl c7) (.skip (.no (d := 12) rfl rfl rfl c7) (.skip (.no (d := 12) rfl rfl rfl c7) (.skip (.no (d := 12) rfl rfl rfl c7) (.skip (.no (d := 12) rfl rfl rfl c7) (.skip (.no (d := 12) rfl rfl rfl c7) (.skip (.no (d := 12) rfl rfl rfl c7) (.skip (.no (d := 12) rfl rfl rfl c7) .nil)))))))))))))))))) rfl ?_
    refine kn 12 c7 rfl ?_
    refine rn tk 24 rfl ?_
    cases hr
    exact jn _ rfl rfl rfl
  ·
   replace hr := cond_f c4 hr
   refine dr 18 [(21, .tup []), (20, .tup []), (19, .tup []), (18, .tup []), (17, .tup []), (16, .tup []), (15, .tup []), (14, .tup []), (13, .tup []), (12, .bo false), (11, .bo false), (10, .tup []), (9, .tup []), (8, .tup []), (7, .bo v2), (6, .bo v2), (5, .i a0.Year), (4, .ptr 1 0)] mixed (by kernel_rfl) rfl rfl (pq tk rfl (.plain rfl) (pq tk rfl (.plain rfl) (.run (.plain rfl) (opG_call (dates_within_run a0.Year 1 4000 v2 h3) rfl) (pq tk rfl (.plain rfl) (.skip (.no (d := 7) rfl rfl rfl c4) (.skip (.no (d := 7) rfl rfl rfl c4) (.skip (.no (d := 7) rfl rfl rfl c4) (.run (.plain rfl) (opG_q (ev_pick_f rfl c4)) (pq tk rfl (.plain rfl) (.skip (.no (d := 12) rfl rfl rfl rfl) (.skip (.no (d := 12) rfl rfl rfl rfl) (.skip (.no (d := 12) rfl rfl rfl rfl) (.skip (.no (d := 12) rfl rfl rfl rfl) (.skip (.no (d := 12) rfl rfl rfl rfl) (.skip (.no (d := 12) rfl rfl rfl rfl) (.skip (.no (d := 12) rfl rfl rfl rfl) (.skip (.no (d := 12) rfl rfl rfl rfl) (.skip (.no (d := 12) rfl rfl rfl rfl) .nil)))))))))))))))))) rfl ?_
   refine rn tk 24 rfl ?_
   cases hr
   exact jn _ rfl rfl rfl
 ·
  refine rn tk 7 rfl ?_
  refine ac 45 hr rfl (fun c24 hr => ?_) (fun c24 hr => ?_)
  ·
   refine rn tk 2 rfl ?_
   obtain ⟨v25, h26, hr⟩ := bind_some hr
   refine cl (basic_Fault_run _ _ _ h26) rfl rfl ?_
   refine rn tk 5 rfl ?_
   cases hr
   exact kr tk (.inr rfl) rfl rfl
  ·
   refine rn tk 4 rfl ?_
   obtain ⟨v27, h28, hr⟩ := bind_some hr
   refine cl (basic_None_run _ h28) rfl rfl ?_
   refine rn tk 4 rfl ?_
   cases hr
   exact kr tk (.inr rfl) rfl rfl
theorem dates_Weekday_run (a0 : TDate) (r : Int × TFault) (hr : dates_Weekday a0 = some r) : Run Tryz.prog 60 [.agg [.i a0.Year, .i a0.Month, .i a0.Day, .i a0.Hour, .i a0.Minute, .i a0.Second, .i a0.Zone]] (.tup [.i r.1, .agg [.i r.2.Code, .i r.2.Index]]) := by
 unfold dates_Weekday at hr
 refine rf (fn := Tryz.f60) ⟨Tryz.func60, rfl, by kernel_rfl⟩ rfl (fun _ => rfl) fun g0 hg => ?_
 refine rn tk 11 rfl ?_
 obtain ⟨v1, h2, hr⟩ := bind_some hr
 refine cl (dates_Validate_run _ _ h2) rfl rfl ?_
 refine rn tk 7 rfl ?_
 obtain ⟨v3, h4, hr⟩ := bind_some hr
 refine cl (basic_Failed_run _ _ h4) rfl rfl ?_
 refine rn tk 2 rfl ?_
 refine ac 10 hr rfl (fun c5 hr => ?_) (fun c5 hr => ?_)
 ·
  refine rn tk 1 rfl ?_
  refine dr 2 [(2, .i 0), (11, .agg [.i v1.Code, .i v1.Index])] mixed (by kernel_rfl) rfl rfl (pq tk rfl (.plain rfl) (pq tk rfl (.plain rfl) .nil)) rfl ?_
  refine rn tk 5 rfl ?_
  cases hr
  exact kr tk (.inr rfl) rfl rfl
 ·
  refine rn tk 10 rfl ?_
  obtain ⟨v6, h7, hr⟩ := bind_some hr
  refine cl (dates_day_run _ _ _ _ h7) rfl rfl ?_
  refine rn tk 1 rfl ?_
  obtain ⟨v8, h9, hr⟩ := bind_some hr
  refine cl (dates_split_run _ _ _ h9) rfl rfl ?_
  refine rn tk 10 rfl ?_
  obtain ⟨v10, h11, hr⟩ := bind_some hr
  refine cl (basic_None_run _ h11) rfl rfl ?_
  refine rn tk 5 rfl ?_
  cases hr
  exact kr tk (.inr rfl) rfl rfl
theorem dates_months_run  (r : Str × Str × Str × Str × Str × Str × Str × Str × Str × Str × Str × Str) (hr : dates_months = some r) : Run Tryz.prog 64 [] (.agg [.s r.1, .s r.2.1, .s r.2.2.1, .s r.2.2.2.1, .s r.2.2.2.2.1, .s r.2.2.2.2.2.1, .s r.2.2.2.2.2.2.1, .s r.2.2.2.2.2.2.2.1, .s r.2.2.2.2.2.2.2.2.1, .s r.2.2.2.2.2.2.2.2.2.1, .s r.2.2.2.2.2.2.2.2.2.2.1, .s r.2.2.2.2.2.2.2.2.2.2.2]) := by
 unfold dates_months at hr
 refine rf (fn := Tryz.f64) ⟨Tryz.func64, rfl, by kernel_rfl⟩ rfl (fun _ => rfl) fun g0 hg => ?_
 refine rn tk 7 rfl ?_
 refine wq (ev_buildA (cs := [.s (([74, 97, 110] : Str)), .s (([70, 101, 98] : Str)), .s (([77, 97, 114] : Str)), .s (([65, 112, 114] : Str)), .s (([77, 97, 121] : Str)), .s (([74, 117, 110] : Str)), .s (([74, 117, 108] : Str)), .s (([65, 117, 103] : Str)), .s (([83, 101, 112] : Str)), .s (([79, 99, 116] : Str)), .s (([78, 111, 118] : Str)), .s (([68, 101, 99] : Str))]) ty__12_string ty_string (.inr ⟨rfl, rfl⟩) (by kernel_rfl)) rfl rfl rfl ?_
 refine rn tk 4 rfl ?_
 cases hr
 exact kr tk (.inr rfl) rfl rfl
end Go.Proofs.YtfkgmcilaiblfaaGreatDoor

/- Library functions compute what their Lean functions do: texts repeated. -/
namespace Go.Proofs.YtfkgmcilaiblfaaGreatDoor
open Go.RowKit
set_option maxRecDepth 100000
theorem old_belowP {g : G} {w' : World} (h : Below g.w.heap.size g.w w') : Old (fun _ => False) g ⟨w', g.u, g.loc⟩ :=
  ⟨h.os, h.tape, h.output, ⟨h.size, fun _ _ => Nat.le_refl _, fun k i hk _ => by simp only [World.cell?]; rw [h.block k hk], fun r hr => (h.block r (blk_lt hr)).trans hr⟩, fun k hk _ => ⟨h.block k hk, rfl⟩⟩
theorem str_argP {g : G} {s : Str} {v : Value} (h : Rel g (.s s) v) : v = .string (strB s) := rel_b h
theorem strings_Repeat_run (s : Str) (n : Int) (r : Str) (hr : strings_Repeat s n = some r) : Run Tryz.prog 99 [.s s, .i n] (.s r) := by
  unfold strings_Repeat at hr
  split at hr
  case isFalse => cases hr
  rename_i hlen
  cases hr
  refine ⟨⟨_, _, ⟨Tryz.func99, rfl, by kernel_rfl⟩⟩, fun g vs hw hg ha => ?_⟩
  obtain ⟨hsz, hrel⟩ := ha
  obtain ⟨vl⟩ := vs
  match vl, hsz with
  | [x, y], _ =>
    obtain rfl := str_argP (hrel 0 _ rfl)
    have e2 : y = .int .i64 n := rel_b (hrel 1 _ rfl)
    subst e2
    have e3 : ((n.toNat : Nat) : Int) = n := by omega
    have h := Tryz.strings_Repeat (strB s) n.toNat g.w (by omega) (by rw [strB_size]; exact hlen.2.2)
    rw [e3] at h
    refine callsIn_wide.2 (h.mono ?_)
    rintro e w' ⟨rfl, hb⟩
    exact ⟨⟨w', g.u, g.loc⟩, _, rfl, rfl, old_belowP hb, fun k hk => hw k (Nat.le_trans hb.size hk), rfl, .pv (.b rfl)⟩
end Go.Proofs.YtfkgmcilaiblfaaGreatDoor

/- Numerals of the library: the functions compute what their Lean functions do. -/
namespace Go.Proofs.YtfkgmcilaiblfaaGreatDoor
open Go.RowKit
set_option maxRecDepth 100000
theorem pow_tab {g : G} (hg : Gl g) : Lib.TabIs Tryz.prog g.w "internal/strconv.uint64pow10" .u64 Lib.pow10Tab := by
  obtain ⟨t, fz, h⟩ := hg.2.1 (1, (Lib.pow10Tab.map fun z => Value.int .u64 z).toArray) (by simp [globK])
  have hn : Tryz.prog.globalNamed "internal/strconv.uint64pow10" = some 1 := by kernel_rfl
  unfold Lib.TabIs World.var?
  rw [hn]
  simp only [Option.bind_some]
  simp only at h
  rw [h]
theorem old_more (g : G) (q : Nat) (os : Array Obj) : Old (fun _ => False) g ⟨Go.Sort.grow (g.w.drewN q) os, g.u, g.loc⟩ := by
  have hb : ∀ k, k < g.w.heap.size → (Go.Sort.grow (g.w.drewN q) os).heap[k]? = g.w.heap[k]? := by
    intro k hk
    show (g.w.heap ++ os)[k]? = _
    rw [Array.getElem?_append_left hk]
  refine ⟨rfl, rfl, rfl, ⟨?_, fun _ _ => Nat.le_refl _, fun k i hk hi => ?_, fun r hr => (hb r (blk_lt hr)).trans hr⟩, fun k hk _ => ⟨hb k hk, rfl⟩⟩
  · show g.w.heap.size ≤ (g.w.heap ++ os).size
    simp
  · simp only [World.cell?]; rw [hb k hk]
end Go.Proofs.YtfkgmcilaiblfaaGreatDoor

/- Numerals of the library: Itoa computes what its Lean function does. -/
namespace Go.Proofs.YtfkgmcilaiblfaaGreatDoor
open Go.RowKit
set_option maxRecDepth 100000
theorem strconv_Itoa_run (n : Int) (r : Str) (hr : strconv_Itoa n = some r) : Run Tryz.prog 53 [.i n] (.s r) := by
  unfold strconv_Itoa at hr
  split at hr
  case isFalse => cases hr
  rename_i hlen
  cases hr
  refine ⟨⟨_, _, ⟨Tryz.func53, rfl, by kernel_rfl⟩⟩, fun g vs hw hg ha => ?_⟩
  obtain ⟨hsz, hrel⟩ := ha
  obtain ⟨l⟩ := vs
  match l, hsz with
  | [x], _ =>
    have e2 : x = .int .i64 n := rel_b (hrel 0 _ rfl)
    subst e2
    refine callsIn_wide.2 ((Tryz.strconv_Itoa n hlen.1 hlen.2 g.w (pow_tab hg)).mono ?_)
    rintro e w' ⟨rfl, q, os, rfl⟩
    exact ⟨⟨Go.Sort.grow (g.w.drewN q) os, g.u, g.loc⟩, _, rfl, rfl, old_more g q os, fun k hk => hw k (Nat.le_trans (old_more g q os).ext.size hk), rfl, .pv (.b rfl)⟩
end Go.Proofs.YtfkgmcilaiblfaaGreatDoor

namespace Go.Proofs.YtfkgmcilaiblfaaGreatDoor
open Go.RowKit
set_option maxRecDepth 100000
set_option maxHeartbeats 40000000
set_option linter.unusedVariables false
theorem dates_pad_run (a0 : Int) (a1 : Int) (r : Str) (hr : dates_pad a0 a1 = some r) : Run Tryz.prog 61 [.i a0, .i a1] (.s r) := by
 unfold dates_pad at hr
 refine rf (fn := Tryz.f61) ⟨Tryz.func61, rfl, by kernel_rfl⟩ rfl (fun _ => rfl) fun g0 hg => ?_
 refine rn tk 8 rfl ?_
 obtain ⟨v1, h2, hr⟩ := bind_some hr
 refine cl (strconv_Itoa_run _ _ h2) rfl rfl ?_
 refine rn tk 9 rfl ?_
 refine wq (ev_max rfl rfl) rfl rfl rfl ?_
 obtain ⟨v3, h4, hr⟩ := bind_some hr
 refine cl (strings_Repeat_run _ _ _ h4) rfl rfl ?_
 refine rn tk 1 rfl ?_
 obtain ⟨v5, h6, hr⟩ := bind_some hr
 refine wc h6 rfl rfl rfl ?_
 refine rn tk 4 rfl ?_
 cases hr
 exact kr tk (.inr rfl) rfl rfl
theorem dates_weekdays_run  (r : Str × Str × Str × Str × Str × Str × Str) (hr : dates_weekdays = some r) : Run Tryz.prog 63 [] (.agg [.s r.1, .s r.2.1, .s r.2.2.1, .s r.2.2.2.1, .s r.2.2.2.2.1, .s r.2.2.2.2.2.1, .s r.2.2.2.2.2.2]) := by
 unfold dates_weekdays at hr
 refine rf (fn := Tryz.f63) ⟨Tryz.func63, rfl, by kernel_rfl⟩ rfl (fun _ => rfl) fun g0 hg => ?_
 refine rn tk 7 rfl ?_
 refine wq (ev_buildA (cs := [.s (([83, 117, 110] : Str)), .s (([77, 111, 110] : Str)), .s (([84, 117, 101] : Str)), .s (([87, 101, 100] : Str)), .s (([84, 104, 117] : Str)), .s (([70, 114, 105] : Str)), .s (([83, 97, 116] : Str))]) ty__7_string ty_string (.inr ⟨rfl, rfl⟩) (by kernel_rfl)) rfl rfl rfl ?_
 refine rn tk 4 rfl ?_
 cases hr
 exact kr tk (.inr rfl) rfl rfl
theorem dates_Print_run (a0 : TDate) (r : Str × TFault) (hr : dates_Print a0 = some r) : Run Tryz.prog 26 [.agg [.i a0.Year, .i a0.Month, .i a0.Day, .i a0.Hour, .i a0.Minute, .i a0.Second, .i a0.Zone]] (.tup [.s r.1, .agg [.i r.2.Code, .i r.2.Index]]) := by
 unfold dates_Print at hr
 refine rf (fn := Tryz.f26) ⟨Tryz.func26, rfl, by kernel_rfl⟩ rfl (fun _ => rfl) fun g0 hg => ?_
 refine rn tk 10 rfl ?_
 obtain ⟨v1, h2, hr⟩ := bind_some hr
 refine cl (dates_Weekday_run _ _ h2) rfl rfl ?_
 refine rn tk 12 rfl ?_
 obtain ⟨v3, h4, hr⟩ := bind_some hr
 refine cl (basic_Failed_run _ _ h4) rfl rfl ?_
 refine rn tk 2 rfl ?_
 refine ac 15 hr rfl (fun c5 hr => ?_) (fun c5 hr => ?_)
 ·
  refine rn tk 1 rfl ?_
  refine dr 2 [(2, .s (([] : Str))), (16, .agg [.i v1.2.Code, .i v1.2.Index])] mixed (by kernel_rfl) rfl rfl (pq tk rfl (.plain rfl) (pq tk rfl (.plain rfl) .nil)) rfl ?_
  refine rn tk 5 rfl ?_
  cases hr
  exact kr tk (.inr rfl) rfl rfl
 ·
  refine rn tk 3 rfl ?_
  refine dr 3 [(6, .s (([43] : Str))), (18, .i a0.Zone), (17, .ptr 1 6)] mixed (by kernel_rfl) rfl rfl (pq tk rfl (.plain rfl) (pq tk rfl (.plain rfl) (pq tk rfl (.plain rfl) .nil))) rfl ?_
  refine rn tk 3 rfl ?_
  refine jb hr (fun j6 => [(1, .ptr 1 0), (3, .ptr 3 0), (4, .i v1.1), (6, .s j6.1), (7, .i j6.2)]) (fun j6 => [(3, .cells [.i 0, .i 0]), (1, .cells [.i a0.Year, .i a0.Month, .i a0.Day, .i a0.Hour, .i a0.Minute, .i a0.Second, .i a0.Zone])]) (fun j6 hr => ?_) (fun j6 hr => ?_)
  ·
   refine rn tk 7 rfl ?_
   refine ac 21 hr rfl (fun c7 hr => ?_) (fun c7 hr => ?_)
   ·
    refine dr 4 [(6, .s (([45] : Str))), (24, .i ((w64 (0 - a0.Zone)))), (23, .i a0.Zone), (22, .ptr 1 6)] mixed (by kernel_rfl) rfl rfl (pq tk rfl (.plain rfl) (pq tk rfl (.plain rfl) (.run (.plain rfl) (opG_q (ev_ineg rfl)) (pq tk rfl (.plain rfl) .nil)))) rfl ?_
    refine rn tk 2 rfl ?_
    cases hr
    exact jn _ rfl rfl rfl
   ·
    refine rn tk 1 rfl ?_
    cases hr
    exact jn _ rfl rfl rfl
  ·
   refine rn tk 4 rfl ?_
   refine wq (ev_iquo rfl rfl rfl) rfl rfl rfl ?_
   obtain ⟨v8, h9, hr⟩ := bind_some hr
   refine cl (dates_pad_run _ _ _ h9) rfl rfl ?_
   refine rn tk 1 rfl ?_
   refine wq (ev_irem rfl rfl rfl) rfl rfl rfl ?_
   obtain ⟨v10, h11, hr⟩ := bind_some hr
   refine cl (dates_pad_run _ _ _ h11) rfl rfl ?_
   obtain ⟨v12, h13, hr⟩ := bind_some hr
   refine wc h13 rfl rfl rfl ?_
   obtain ⟨v14, h15, hr⟩ := bind_some hr
   refine wc h15 rfl rfl rfl ?_
   refine rn tk 4 rfl ?_
   obtain ⟨v16, h17, hr⟩ := bind_some hr
   obtain ⟨v18, h19, hr⟩ := bind_some hr
   obtain ⟨v20, h21, hr⟩ := bind_some hr
   obtain ⟨v22, h23, hr⟩ := bind_some hr
   obtain ⟨v24, h25, hr⟩ := bind_some hr
   obtain ⟨v26, h27, hr⟩ := bind_some hr
   refine dr 12 [(45, .s v26), (44, .i a0.Second), (43, .ptr 1 5), (42, .s v24), (41, .s v22), (40, .s v20), (39, .i a0.Minute), (38, .ptr 1 4), (37, .s v18), (36, .s v16), (35, .i a0.Hour), (34, .ptr 1 3)] mixed (by kernel_rfl) rfl rfl (pq tk rfl (.plain rfl) (pq tk rfl (.plain rfl) (.run (.plain rfl) (opG_call (dates_pad_run a0.Hour 2 v16 h17) rfl) (.run (.plain rfl) (opG_q (ev_cat rfl rfl h19)) (pq tk rfl (.plain rfl) (pq tk rfl (.plain rfl) (.run (.plain rfl) (opG_call (dates_pad_run a0.Minute 2 v20 h21) rfl) (.run (.plain rfl) (opG_q (ev_cat rfl rfl h23)) (.run (.plain rfl) (opG_q (ev_cat rfl rfl h25)) (pq tk rfl (.plain rfl) (pq tk rfl (.plain rfl) (.run (.plain rfl) (opG_call (dates_pad_run a0.Second 2 v26 h27) rfl) .nil)))))))))))) rfl ?_
   obtain ⟨v28, h29, hr⟩ := bind_some hr
   refine wc h29 rfl rfl rfl ?_
   refine rn tk 4 rfl ?_
   obtain ⟨v30, h31, hr⟩ := bind_some hr
   obtain ⟨v32, h33, hr⟩ := bind_some hr
   obtain ⟨v34, h35, hr⟩ := bind_some hr
   obtain ⟨v36, h37, hr⟩ := bind_some hr
   obtain ⟨v38, h39, hr⟩ := bind_some hr
   obtain ⟨v40, h41, hr⟩ := bind_some hr
   obtain ⟨v42, h43, hr⟩ := bind_some hr
   refine dr 17 [(63, .s v14), (62, .s v28), (61, .s v42), (60, .i a0.Year), (59, .ptr 1 0), (58, .s v40), (57, .i ((w64 (a0.Month - 1)))), (56, .i a0.Month), (55, .ptr 1 1), (54, .agg [.s v38.1, .s v38.2.1, .s v38.2.2.1, .s v38.2.2.2.1, .s v38.2.2.2.2.1, .s v38.2.2.2.2.2.1, .s v38.2.2.2.2.2.2.1, .s v38.2.2.2.2.2.2.2.1, .s v38.2.2.2.2.2.2.2.2.1, .s v38.2.2.2.2.2.2.2.2.2.1, .s v38.2.2.2.2.2.2.2.2.2.2.1, .s v38.2.2.2.2.2.2.2.2.2.2.2]), (53, .s v36), (52, .i a0.Day), (51, .ptr 1 2), (50, .s v34), (49, .s v32), (48, .i v1.1), (47, .agg [.s v30.1, .s v30.2.1, .s v30.2.2.1, .s v30.2.2.2.1, .s v30.2.2.2.2.1, .s v30.2.2.2.2.2.1, .s v30.2.2.2.2.2.2])] mixed (by kernel_rfl) rfl rfl (.run (.plain rfl) (opG_call (dates_weekdays_run  v30 h31) rfl) (pq tk rfl (.plain rfl) (.run (.plain rfl) (opG_q (ev_aidx (f := cS) (L := ([v30.1, v30.2.1, v30.2.2.1, v30.2.2.2.1, v30.2.2.2.2.1, v30.2.2.2.2.2.1, v30.2.2.2.2.2.2] : List Str)) rfl rfl ty__7_string ty_string rfl rfl (fun _ => rfl) h33 rfl)) (.run (.plain rfl) (opG_q (ev_cat rfl rfl h35)) (pq tk rfl (.plain rfl) (pq tk rfl (.plain rfl) (.run (.plain rfl) (opG_call (dates_pad_run a0.Day 2 v36 h37) rfl) (.run (.plain rfl) (opG_call (dates_months_run  v38 h39) rfl) (pq tk rfl (.plain rfl) (pq tk rfl (.plain rfl) (pq tk rfl (.plain rfl) (.run (.plain rfl) (opG_q (ev_aidx (f := cS) (L := ([v38.1, v38.2.1, v38.2.2.1, v38.2.2.2.1, v38.2.2.2.2.1, v38.2.2.2.2.2.1, v38.2.2.2.2.2.2.1, v38.2.2.2.2.2.2.2.1, v38.2.2.2.2.2.2.2.2.1, v38.2.2.2.2.2.2.2.2.2.1, v38.2.2.2.2.2.2.2.2.2.2.1, v38.2.2.2.2.2.2.2.2.2.2.2] : List Str)) rfl rfl ty__12_string ty_string rfl rfl (fun _ => rfl) h41 rfl)) (pq tk rfl (.plain rfl) (pq tk rfl (.plain rfl) (.run (.plain rfl) (opG_call (dates_pad_run a0.Year 4 v42 h43) rfl) (pq tk rfl (.plain rfl) (pq tk rfl (.plain rfl) .nil))))))))))))))))) rfl ?_
   refine wz cS ([v34, v36, v40, v42, v28, v14] : List Str) tk rfl rfl (fun _ => rfl) rfl rfl rfl ?_
   obtain ⟨v44, h45, hr⟩ := bind_some hr
   refine cl (strings_Join_run _ _ _ h45) rfl rfl ?_
   obtain ⟨v46, h47, hr⟩ := bind_some hr
   refine cl (basic_None_run _ h47) rfl rfl ?_
   refine rn tk 5 rfl ?_
   cases hr
   exact kr tk (.inr rfl) rfl rfl
end Go.Proofs.YtfkgmcilaiblfaaGreatDoor

/- Library functions compute what their Lean functions do: strings.TrimSuffix. -/
namespace Go.Proofs.YtfkgmcilaiblfaaGreatDoor
open Go.RowKit
set_option maxRecDepth 100000
theorem str_argTy {g : G} {s : Str} {v : Value} (h : Rel g (.s s) v) : v = .string (strB s) := rel_b h
theorem strings_TrimSuffix_run (s t : Str) (r : Str) (hr : strings_TrimSuffix s t = some r) : Run Tryz.prog 70 [.s s, .s t] (.s r) := by
  unfold strings_TrimSuffix at hr
  split at hr
  case isFalse => cases hr
  rename_i hlen
  cases hr
  refine ⟨⟨_, _, ⟨Tryz.func70, rfl, by kernel_rfl⟩⟩, fun g vs hw hg ha => ?_⟩
  obtain ⟨hsz, hrel⟩ := ha
  obtain ⟨l⟩ := vs
  match l, hsz with
  | [x, y], _ =>
    obtain rfl := str_argTy (hrel 0 _ rfl)
    obtain rfl := str_argTy (hrel 1 _ rfl)
    refine callsIn_wide.2 ((Tryz.strings_TrimSuffix (strB s) (strB t) g.w (by rw [strB_size]; exact hlen)).mono ?_)
    rintro e w' ⟨rfl, rfl⟩
    exact ⟨g, _, rfl, rfl, Old.refl _ g, hw, rfl, .pv (.b rfl)⟩
end Go.Proofs.YtfkgmcilaiblfaaGreatDoor

namespace Go.Proofs.YtfkgmcilaiblfaaGreatDoor
open Go.RowKit
set_option maxRecDepth 100000
set_option maxHeartbeats 40000000
set_option linter.unusedVariables false
theorem notice_kinds_run  (r : Str × Str × Str × Str × Str) (hr : notice_kinds = some r) : Run Tryz.prog 28 [] (.agg [.s r.1, .s r.2.1, .s r.2.2.1, .s r.2.2.2.1, .s r.2.2.2.2]) := by
 unfold notice_kinds at hr
 refine rf (fn := Tryz.f28) ⟨Tryz.func28, rfl, by kernel_rfl⟩ rfl (fun _ => rfl) fun g0 hg => ?_
 refine rn tk 7 rfl ?_
 refine wq (ev_buildA (cs := [.s (([] : Str)), .s (([102, 97, 105, 108, 117, 114, 101] : Str)), .s (([100, 101, 108, 97, 121] : Str)), .s (([] : Str)), .s (([115, 117, 99, 99, 101, 115, 115] : Str))]) ty__5_string ty_string (.inr ⟨rfl, rfl⟩) (by kernel_rfl)) rfl rfl rfl ?_
 refine rn tk 4 rfl ?_
 cases hr
 exact kr tk (.inr rfl) rfl rfl
theorem notice_about_run (a0 : Str) (a1 : Int) (r : Str) (hr : notice_about a0 a1 = some r) : Run Tryz.prog 29 [.s a0, .i a1] (.s r) := by
 unfold notice_about at hr
 refine rf (fn := Tryz.f29) ⟨Tryz.func29, rfl, by kernel_rfl⟩ rfl (fun _ => rfl) fun g0 hg => ?_
 refine rn tk 7 rfl ?_
 obtain ⟨v1, h2, hr⟩ := bind_some hr
 refine cl (notice_kinds_run _ h2) rfl rfl ?_
 refine rn tk 1 rfl ?_
 obtain ⟨v3, h4, hr⟩ := bind_some hr
 refine wq (ev_aidx (f := cS) (L := ([v1.1, v1.2.1, v1.2.2.1, v1.2.2.2.1, v1.2.2.2.2] : List Str)) rfl rfl ty__5_string ty_string rfl rfl (fun _ => rfl) h4 rfl) rfl rfl rfl ?_
 obtain ⟨v5, h6, hr⟩ := bind_some hr
 refine wc h6 rfl rfl rfl ?_
 refine rn tk 1 rfl ?_
 obtain ⟨v7, h8, hr⟩ := bind_some hr
 refine wc h8 rfl rfl rfl ?_
 obtain ⟨v9, h10, hr⟩ := bind_some hr
 refine cl (strings_TrimSuffix_run _ _ _ h10) rfl rfl ?_
 refine rn tk 4 rfl ?_
 cases hr
 exact kr tk (.inr rfl) rfl rfl
theorem notice_results_run  (r : Str × Str × Str × Str) (hr : notice_results = some r) : Run Tryz.prog 71 [] (.agg [.s r.1, .s r.2.1, .s r.2.2.1, .s r.2.2.2]) := by
 unfold notice_results at hr
 refine rf (fn := Tryz.f71) ⟨Tryz.func71, rfl, by kernel_rfl⟩ rfl (fun _ => rfl) fun g0 hg => ?_
 refine rn tk 7 rfl ?_
 refine wq (ev_buildA (cs := [.s (([] : Str)), .s (([115, 101, 110, 116] : Str)), .s (([108, 97, 116, 101, 114] : Str)), .s (([102, 97, 105, 108, 101, 100] : Str))]) ty__4_string ty_string (.inr ⟨rfl, rfl⟩) (by kernel_rfl)) rfl rfl rfl ?_
 refine rn tk 4 rfl ?_
 cases hr
 exact kr tk (.inr rfl) rfl rfl
theorem notice_body_run (a0 : List TTold) (r : Str) (hr : notice_body a0 = some r) : Run Tryz.prog 30 [.l TTold.pc a0] (.s r) := by
 unfold notice_body at hr
 refine rf (fn := Tryz.f30) ⟨Tryz.func30, rfl, by kernel_rfl⟩ rfl (fun _ => rfl) fun g0 hg => ?_
 refine rn tk 14 rfl ?_
 refine wn tk rfl rfl rfl ?_
 refine rn tk 4 rfl ?_
 refine al1 hr (fun s1 => [(3, .s s1.1), (6, .l TTold.pc a0), (7, .i ((a0.length : Int))), (8, .i s1.2)]) (fun s1 => []) (.exit 0) (fun b2 => [(3, .s b2)]) (fun b2 => []) rfl rfl (fun s1 x3 hr => ?_) (fun b2 hr => ?_)
 ·
  unfold notice_body_l1 at hr
  refine rn tk 6 rfl ?_
  refine ac 9 hr rfl (fun c4 hr => ?_) (fun c4 hr => ?_)
  ·
   refine rn tk 6 rfl ?_
   obtain ⟨v5, h6, hr⟩ := bind_some hr
   refine wi tk h6 rfl rfl rfl rfl rfl ?_
   refine rn tk 5 rfl ?_
   obtain ⟨v7, h8, hr⟩ := bind_some hr
   obtain ⟨v9, h10, hr⟩ := bind_some hr
   obtain ⟨v11, h12, hr⟩ := bind_some hr
   obtain ⟨v13, h14, hr⟩ := bind_some hr
   obtain ⟨v15, h16, hr⟩ := bind_some hr
   refine dr 10 [(21, .s v15), (20, .s v13), (19, .s v5.Address), (18, .ptr 5 0), (17, .s v11), (16, .s v9), (15, .i v5.Result), (14, .ptr 5 1), (13, .agg [.s v7.1, .s v7.2.1, .s v7.2.2.1, .s v7.2.2.2]), (12, .s s1.1)] mixed (by kernel_rfl) rfl rfl (pq tk rfl (.plain rfl) (.run (.plain rfl) (opG_call (notice_results_run  v7 h8) rfl) (pq tk rfl (.plain rfl) (pq tk rfl (.plain rfl) (.run (.plain rfl) (opG_q (ev_aidx (f := cS) (L := ([v7.1, v7.2.1, v7.2.2.1, v7.2.2.2] : List Str)) rfl rfl ty__4_string ty_string rfl rfl (fun _ => rfl) h10 rfl)) (.run (.plain rfl) (opG_q (ev_cat rfl rfl h12)) (pq tk rfl (.plain rfl) (pq tk rfl (.plain rfl) (.run (.plain rfl) (opG_q (ev_cat rfl rfl h14)) (.run (.plain rfl) (opG_q (ev_cat rfl rfl h16)) .nil)))))))))) rfl ?_
   obtain ⟨v17, h18, hr⟩ := bind_some hr
   refine wc h18 rfl rfl rfl ?_
   refine rn tk 8 rfl ?_
   cases hr
   exact atc rfl rfl
  ·
   refine rn tk 2 rfl ?_
   cases hr
   exact ato rfl rfl rfl rfl
 ·
  refine rn tk 9 rfl ?_
  cases hr
  exact kr tk (.inr rfl) rfl rfl
theorem notice_id_run (a0 : Str) (a1 : Int) (r : Str) (hr : notice_id a0 a1 = some r) : Run Tryz.prog 23 [.s a0, .i a1] (.s r) := by
 unfold notice_id at hr
 refine rf (fn := Tryz.f23) ⟨Tryz.func23, rfl, by kernel_rfl⟩ rfl (fun _ => rfl) fun g0 hg => ?_
 refine rn tk 8 rfl ?_
 obtain ⟨v1, h2, hr⟩ := bind_some hr
 refine wc h2 rfl rfl rfl ?_
 refine rn tk 1 rfl ?_
 obtain ⟨v3, h4, hr⟩ := bind_some hr
 refine cl (strconv_Itoa_run _ _ h4) rfl rfl ?_
 obtain ⟨v5, h6, hr⟩ := bind_some hr
 refine wc h6 rfl rfl rfl ?_
 refine rn tk 4 rfl ?_
 cases hr
 exact kr tk (.inr rfl) rfl rfl
theorem notice_known_run (a0 : Int) (r : Bool) (hr : notice_known a0 = some r) : Run Tryz.prog 22 [.i a0] (.bo r) := by
 unfold notice_known at hr
 refine rf (fn := Tryz.f22) ⟨Tryz.func22, rfl, by kernel_rfl⟩ rfl (fun _ => rfl) fun g0 hg => ?_
 refine rn tk 5 rfl ?_
 refine jb hr (fun j1 => [(2, .bo j1)]) (fun j1 => []) (fun j1 hr => ?_) (fun j1 hr => ?_)
 ·
  refine rn tk 4 rfl ?_
  refine bs 5 hr rfl (fun c2 hr => ?_) (fun c2 hr => ?_)
  ·
   refine rn tk 1 rfl ?_
   obtain ⟨v3, h4, hr⟩ := bind_some hr
   refine ug rfl rfl rfl ?_
   refine cl (notice_kinds_run _ h4) rfl rfl ?_
   refine rn tk 4 rfl ?_
   refine bs 11 hr rfl (fun c5 hr => ?_) (fun c5 hr => ?_)
   ·
    obtain ⟨v6, h7, hr⟩ := bind_some hr
    refine ug rfl rfl rfl ?_
    refine cl (notice_kinds_run _ h7) rfl rfl ?_
    refine rn tk 1 rfl ?_
    obtain ⟨v8, h9, hr⟩ := bind_some hr
    refine ug rfl rfl rfl ?_
    refine wq (ev_aidx (f := cS) (L := ([v6.1, v6.2.1, v6.2.2.1, v6.2.2.2.1, v6.2.2.2.2] : List Str)) rfl rfl ty__5_string ty_string rfl rfl (fun _ => rfl) h9 rfl) rfl rfl rfl ?_
    refine rn tk 4 rfl ?_
    cases hr
    exact jn _ rfl rfl rfl
   ·
    refine rn tk 7 rfl ?_
    cases hr
    exact jn _ rfl rfl rfl
  ·
   refine rn tk 13 rfl ?_
   cases hr
   exact jn _ rfl rfl rfl
 ·
  refine rn tk 1 rfl ?_
  cases hr
  exact kr tk (.inr rfl) rfl rfl
theorem notice_told_run (a0 : List TTold) (r : TFault) (hr : notice_told a0 = some r) : Run Tryz.prog 24 [.l TTold.pc a0] (.agg [.i r.Code, .i r.Index]) := by
 unfold notice_told at hr
 refine rf (fn := Tryz.f24) ⟨Tryz.func24, rfl, by kernel_rfl⟩ rfl (fun _ => rfl) fun g0 hg => ?_
 refine rn tk 6 rfl ?_
 refine jb hr (fun j1 => [(0, .l TTold.pc a0), (2, .ptr 2 0), (13, .bo j1)]) (fun j1 => [(2, .cells [.i 0, .i 0])]) (fun j1 hr => ?_) (fun j1 hr => ?_)
 ·
  refine rn tk 2 rfl ?_
  refine wn tk rfl rfl rfl ?_
  refine rn tk 2 rfl ?_
  refine bs 9 hr rfl (fun c2 hr => ?_) (fun c2 hr => ?_)
  ·
   refine rn tk 5 rfl ?_
   cases hr
   exact jn _ rfl rfl rfl
  ·
   refine rn tk 1 rfl ?_
   refine ug rfl rfl rfl ?_
   refine wn tk rfl rfl rfl ?_
   refine rn tk 3 rfl ?_
   cases hr
   exact jn _ rfl rfl rfl
 ·
  refine ac 13 hr rfl (fun c3 hr => ?_) (fun c3 hr => ?_)
  ·
   refine rn tk 2 rfl ?_
   obtain ⟨v4, h5, hr⟩ := bind_some hr
   refine cl (basic_Fault_run _ _ _ h5) rfl rfl ?_
   refine rn tk 5 rfl ?_
   cases hr
   exact kr tk (.inr rfl) rfl rfl
  ·
   refine rn tk 11 rfl ?_
   refine wn tk rfl rfl rfl ?_
   refine rn tk 4 rfl ?_
   refine al2 hr (fun s6 => [(2, .ptr 2 0), (3, .fn (.func 54) [] []), (15, .l TTold.pc a0), (16, .i ((a0.length : Int))), (17, .i s6)]) (fun s6 => [(2, .cells [.i 0, .i 0])]) (.exit 0) (fun b7 => [(2, .ptr 2 0)]) (fun b7 => [(2, .cells [.i 0, .i 0])]) .ret (fun b8 => [(2, .ptr 2 0)]) (fun b8 => [(2, .cells [.i b8.Code, .i b8.Index])]) rfl rfl (fun s6 x10 hr => ?_) (fun b7 hr => ?_) (fun b8 hr => ?_)
   ·
    unfold notice_told_l1 at hr
    refine rn tk 6 rfl ?_
    refine ac 18 hr rfl (fun c11 hr => ?_) (fun c11 hr => ?_)
    ·
     refine rn tk 7 rfl ?_
     obtain ⟨v12, h13, hr⟩ := bind_some hr
     refine wi tk h13 rfl rfl rfl rfl rfl ?_
     refine rn tk 11 rfl ?_
     obtain ⟨v14, h15, hr⟩ := bind_some hr
     refine cl (envelope_Address_run _ _ h15) rfl rfl ?_
     refine rn tk 3 rfl ?_
     refine ac 25 hr rfl (fun c16 hr => ?_) (fun c16 hr => ?_)
     ·
      refine rn tk 3 rfl ?_
      obtain ⟨v17, h18, hr⟩ := bind_some hr
      refine cl (basic_Fault_run _ _ _ h18) rfl rfl ?_
      refine rn tk 7 rfl ?_
      cases hr
      exact ato rfl rfl rfl rfl
     ·
      refine rn tk 7 rfl ?_
      refine il (fn := Tryz.f54) (args := [.i v12.Result]) 200000 299999 [(2, .ptr 2 0), (3, .fn (.func 54) [] []), (4, .i s6), (15, .l TTold.pc a0), (16, .i ((a0.length : Int))), (17, .i s6)] rfl ⟨Tryz.func54, rfl, by kernel_rfl⟩ rfl rfl rfl fun T2 ds2 => ?_
      refine rn tk 5 rfl ?_
      refine jb hr (fun j19 => [(2, .bo j19)]) (fun j19 => [(299999, .sus g0.w.heap.size ds2), (200002, .hold (.ptr 2 0) (T2.getD 2 undef)), (200003, .hold (.fn (.func 54) [] []) (T2.getD 3 undef)), (200015, .hold (.l TTold.pc a0) (T2.getD 15 undef)), (200016, .hold (.i ((a0.length : Int))) (T2.getD 16 undef)), (200017, .hold (.i s6) (T2.getD 17 undef)), (200004, .hold (.i s6) (T2.getD 4 undef)), (2, .cells [.i 0, .i 0])]) (fun j19 hr => ?_) (fun j19 hr => ?_)
      ·
       refine rn tk 4 rfl ?_
       refine bs 5 hr rfl (fun c20 hr => ?_) (fun c20 hr => ?_)
       ·
        refine rn tk 5 rfl ?_
        cases hr
        exact jn _ rfl rfl rfl
       ·
        refine rn tk 5 rfl ?_
        cases hr
        exact jn _ rfl rfl rfl
      ·
       refine rn tk 1 rfl ?_
       refine ie tk [.bo j19] [(2, .ptr 2 0), (3, .fn (.func 54) [] []), (4, .i s6), (15, .l TTold.pc a0), (16, .i ((a0.length : Int))), (17, .i s6)] [(2, .cells [.i 0, .i 0])] (.inr rfl) rfl rfl rfl rfl (hO ?_)
       refine rn tk 3 rfl ?_
       refine ac 32 hr rfl (fun c21 hr => ?_) (fun c21 hr => ?_)
       ·
        refine rn tk 3 rfl ?_
        obtain ⟨v22, h23, hr⟩ := bind_some hr
        refine cl (basic_Fault_run _ _ _ h23) rfl rfl ?_
        refine rn tk 6 rfl ?_
        cases hr
        exact ato rfl rfl rfl rfl
       ·
        refine rn tk 7 rfl ?_
        cases hr
        exact atc rfl rfl
    ·
     refine rn tk 2 rfl ?_
     cases hr
     exact ato rfl rfl rfl rfl
   ·
    refine rn tk 4 rfl ?_
    obtain ⟨v24, h25, hr⟩ := bind_some hr
    refine cl (basic_None_run _ h25) rfl rfl ?_
    refine rn tk 4 rfl ?_
    cases hr
    exact kr tk (.inr rfl) rfl rfl
   ·
    refine rn tk 2 rfl ?_
    cases hr
    exact kr tk (.inr rfl) rfl rfl
theorem notice_Make_run (a0 : TMail) (a1 : Int) (a2 : List TTold) (a3 : Int) (r : TMail × TFault) (hr : notice_Make a0 a1 a2 a3 = some r) : Run Tryz.prog 7 [.agg [.s a0.Envelope.From, .l TRecipient.pc a0.Envelope.To, .s a0.Envelope.Id, .l TField.pc a0.Message.Fields, .l cU a0.Message.Body], .i a1, .l TTold.pc a2, .i a3] (.tup [.agg [.s r.1.Envelope.From, .l TRecipient.pc r.1.Envelope.To, .s r.1.Envelope.Id, .l TField.pc r.1.Message.Fields, .l cU r.1.Message.Body], .agg [.i r.2.Code, .i r.2.Index]]) := by
 unfold notice_Make at hr
 refine rf (fn := Tryz.f7) ⟨Tryz.func7, rfl, by kernel_rfl⟩ rfl (fun _ => rfl) fun g0 hg => ?_
 refine rn tk 18 rfl ?_
 obtain ⟨v1, h2, hr⟩ := bind_some hr
 refine cl (envelope_Check_run _ _ h2) rfl rfl ?_
 refine rn tk 9 rfl ?_
 obtain ⟨v3, h4, hr⟩ := bind_some hr
 refine cl (basic_Failed_run _ _ h4) rfl rfl ?_
 refine rn tk 3 rfl ?_
 refine ac 25 hr rfl (fun c5 hr => ?_) (fun c5 hr => ?_)
 ·
  refine rn tk 1 rfl ?_
  refine drX 2 3 3 3 [1] [(29, .agg [.i v1.Code, .i v1.Index]), (28, .agg [.s (([] : Str)), .pv (.sl (some true) []), .s (([] : Str)), .pv (.sl (some true) []), .pv (.sl (some true) [])])] [(8, .ptr 8 0), (9, .ptr 9 0), (29, .agg [.i v1.Code, .i v1.Index])] [(11, .cells [.i v1.Code, .i v1.Index]), (10, .cells [.s a0.Envelope.From, .l TRecipient.pc a0.Envelope.To, .s a0.Envelope.Id]), (9, .cells [.i 0, .i 0]), (8, .cells [.s (([] : Str)), .pv (.sl (some true) []), .s (([] : Str)), .pv (.sl (some true) []), .pv (.sl (some true) [])]), (4, .cells [.s a0.Envelope.From, .l TRecipient.pc a0.Envelope.To, .s a0.Envelope.Id, .l TField.pc a0.Message.Fields, .l cU a0.Message.Body])] tk mixed (by kernel_rfl) rfl rfl rfl (pqX tk rfl (.plain rfl) (pqX tk rfl (.plain rfl) .nil)) rfl rfl rfl rfl (by kernel_rfl) ?_
  refine rn tk 6 rfl ?_
  cases hr
  exact kr tk (.inr rfl) rfl rfl
 ·
  refine rn tk 8 rfl ?_
  refine ac 30 hr rfl (fun c6 hr => ?_) (fun c6 hr => ?_)
  ·
   refine rn tk 3 rfl ?_
   obtain ⟨v7, h8, hr⟩ := bind_some hr
   refine cl (basic_Fault_run _ _ _ h8) rfl rfl ?_
   refine rn tk 7 rfl ?_
   cases hr
   exact kr tk (.inr rfl) rfl rfl
  ·
   refine rn tk 3 rfl ?_
   obtain ⟨v9, h10, hr⟩ := bind_some hr
   refine cl (notice_known_run _ _ h10) rfl rfl ?_
   refine rn tk 4 rfl ?_
   refine ac 36 hr rfl (fun c11 hr => ?_) (fun c11 hr => ?_)
   ·
    refine rn tk 3 rfl ?_
    obtain ⟨v12, h13, hr⟩ := bind_some hr
    refine cl (basic_Fault_run _ _ _ h13) rfl rfl ?_
    refine rn tk 7 rfl ?_
    cases hr
    exact kr tk (.inr rfl) rfl rfl
   ·
    refine rn tk 5 rfl ?_
    obtain ⟨v14, h15, hr⟩ := bind_some hr
    refine cl (notice_id_run _ _ _ h15) rfl rfl ?_
    refine rn tk 5 rfl ?_
    refine ac 42 hr rfl (fun c16 hr => ?_) (fun c16 hr => ?_)
    ·
     refine rn tk 3 rfl ?_
     obtain ⟨v17, h18, hr⟩ := bind_some hr
     refine cl (basic_Fault_run _ _ _ h18) rfl rfl ?_
     refine rn tk 7 rfl ?_
     cases hr
     exact kr tk (.inr rfl) rfl rfl
    ·
     refine rn tk 7 rfl ?_
     obtain ⟨v19, h20, hr⟩ := bind_some hr
     refine cl (notice_told_run _ _ h20) rfl rfl ?_
     refine rn tk 7 rfl ?_
     obtain ⟨v21, h22, hr⟩ := bind_some hr
     refine cl (basic_Failed_run _ _ h22) rfl rfl ?_
     refine rn tk 2 rfl ?_
     refine ac 54 hr rfl (fun c23 hr => ?_) (fun c23 hr => ?_)
     ·
      refine rn tk 1 rfl ?_
      refine drX 2 3 3 3 [1] [(56, .agg [.i v19.Code, .i v19.Index]), (55, .agg [.s (([] : Str)), .pv (.sl (some true) []), .s (([] : Str)), .pv (.sl (some true) []), .pv (.sl (some true) [])])] [(8, .ptr 8 0), (9, .ptr 9 0), (56, .agg [.i v19.Code, .i v19.Index])] [(12, .cells [.i v19.Code, .i v19.Index]), (11, .cells [.i v1.Code, .i v1.Index]), (10, .cells [.s a0.Envelope.From, .l TRecipient.pc a0.Envelope.To, .s a0.Envelope.Id]), (9, .cells [.i 0, .i 0]), (8, .cells [.s (([] : Str)), .pv (.sl (some true) []), .s (([] : Str)), .pv (.sl (some true) []), .pv (.sl (some true) [])]), (4, .cells [.s a0.Envelope.From, .l TRecipient.pc a0.Envelope.To, .s a0.Envelope.Id, .l TField.pc a0.Message.Fields, .l cU a0.Message.Body])] tk mixed (by kernel_rfl) rfl rfl rfl (pqX tk rfl (.plain rfl) (pqX tk rfl (.plain rfl) .nil)) rfl rfl rfl rfl (by kernel_rfl) ?_
      refine rn tk 5 rfl ?_
      cases hr
      exact kr tk (.inr rfl) rfl rfl
     ·
      refine rn tk 5 rfl ?_
      obtain ⟨v24, h25, hr⟩ := bind_some hr
      refine cl (dates_Civil_run _ _ _ h25) rfl rfl ?_
      refine rn tk 12 rfl ?_
      obtain ⟨v26, h27, hr⟩ := bind_some hr
      refine cl (basic_Failed_run _ _ h27) rfl rfl ?_
      refine rn tk 2 rfl ?_
      refine ac 63 hr rfl (fun c28 hr => ?_) (fun c28 hr => ?_)
      ·
       refine rn tk 5 rfl ?_
       obtain ⟨v29, h30, hr⟩ := bind_some hr
       refine cl (basic_Fault_run _ _ _ h30) rfl rfl ?_
       refine rn tk 6 rfl ?_
       cases hr
       exact kr tk (.inr rfl) rfl rfl
      ·
       refine rn tk 5 rfl ?_
       obtain ⟨v31, h32, hr⟩ := bind_some hr
       refine cl (dates_Print_run _ _ h32) rfl rfl ?_
       refine rn tk 12 rfl ?_
       obtain ⟨v33, h34, hr⟩ := bind_some hr
       refine cl (envelope_Split_run _ _ h34) rfl rfl ?_
       refine rn tk 10 rfl ?_
       obtain ⟨v35, h36, hr⟩ := bind_some hr
       obtain ⟨v37, h38, hr⟩ := bind_some hr
       obtain ⟨v39, h40, hr⟩ := bind_some hr
       obtain ⟨v41, h42, hr⟩ := bind_some hr
       obtain ⟨v43, h44, hr⟩ := bind_some hr
       refine dr 18 [(97, .agg [.s (([88, 45, 78, 111, 116, 105, 99, 101] : Str)), .s v43]), (96, .s v43), (95, .i a1), (94, .s a0.Envelope.Id), (93, .ptr 10 2), (92, .agg [.s (([68, 97, 116, 101] : Str)), .s v31.1]), (91, .s v31.1), (90, .agg [.s (([83, 117, 98, 106, 101, 99, 116] : Str)), .s v41]), (89, .s v41), (88, .s v39), (87, .i a1), (86, .agg [.s v37.1, .s v37.2.1, .s v37.2.2.1, .s v37.2.2.2.1, .s v37.2.2.2.2]), (85, .agg [.s (([84, 111] : Str)), .s a0.Envelope.From]), (84, .s a0.Envelope.From), (83, .ptr 10 0), (82, .agg [.s (([70, 114, 111, 109] : Str)), .s v35]), (81, .s v35), (80, .s v33.2.1)] mixed (by kernel_rfl) rfl rfl (pq tk rfl (.plain rfl) (.run (.plain rfl) (opG_q (ev_cat rfl rfl h36)) (pq tk rfl (.plain rfl) (pq tk rfl (.plain rfl) (pq tk rfl (.plain rfl) (pq tk rfl (.plain rfl) (.run (.plain rfl) (opG_call (notice_kinds_run  v37 h38) rfl) (pq tk rfl (.plain rfl) (.run (.plain rfl) (opG_q (ev_aidx (f := cS) (L := ([v37.1, v37.2.1, v37.2.2.1, v37.2.2.2.1, v37.2.2.2.2] : List Str)) rfl rfl ty__5_string ty_string rfl rfl (fun _ => rfl) h40 rfl)) (.run (.plain rfl) (opG_q (ev_cat rfl rfl h42)) (pq tk rfl (.plain rfl) (pq tk rfl (.plain rfl) (pq tk rfl (.plain rfl) (pq tk rfl (.plain rfl) (pq tk rfl (.plain rfl) (pq tk rfl (.plain rfl) (.run (.plain rfl) (opG_call (notice_about_run a0.Envelope.Id a1 v43 h44) rfl) (pq tk rfl (.plain rfl) .nil)))))))))))))))))) rfl ?_
       refine wz TField.pc ([(TField.mk (([70, 114, 111, 109] : Str)) v35), (TField.mk (([84, 111] : Str)) a0.Envelope.From), (TField.mk (([83, 117, 98, 106, 101, 99, 116] : Str)) v41), (TField.mk (([68, 97, 116, 101] : Str)) v31.1), (TField.mk (([88, 45, 78, 111, 116, 105, 99, 101] : Str)) v43)] : List TField) tk rfl rfl (fun _ => rfl) rfl (by kernel_rfl) rfl ?_
       refine rn tk 8 rfl ?_
       refine wz TRecipient.pc ([(TRecipient.mk a0.Envelope.From 0)] : List TRecipient) tk rfl rfl (fun _ => rfl) rfl rfl rfl ?_
       refine rn tk 9 rfl ?_
       obtain ⟨v45, h46, hr⟩ := bind_some hr
       refine cl (notice_id_run _ _ _ h46) rfl rfl ?_
       refine rn tk 3 rfl ?_
       obtain ⟨v47, h48, hr⟩ := bind_some hr
       refine cl (notice_body_run _ _ h48) rfl rfl ?_
       refine wo (opTo_g (d := 112) rfl rfl (opG_s2bytes (k := 0) rfl ty_string ty_s_uint8 ty_uint8)) rfl ?_
       refine rn tk 2 rfl ?_
       obtain ⟨v49, h50, hr⟩ := bind_some hr
       refine cl (basic_None_run _ h50) rfl rfl ?_
       refine rn tk 5 rfl ?_
       cases hr
       exact kr tk (.inr rfl) rfl rfl
theorem basic_Lower_run (a0 : Str) (r : Str) (hr : basic_Lower a0 = some r) : Run Tryz.prog 117 [.s a0] (.s r) := by
 unfold basic_Lower at hr
 refine rf (fn := Tryz.f117) ⟨Tryz.func117, rfl, by kernel_rfl⟩ rfl (fun _ => rfl) fun g0 hg => ?_
 refine rn tk 8 rfl ?_
 refine wo (opTo_s2buf (k := 7) (s := a0) 1007 rfl rfl rfl rfl ty_string ty_s_uint8 ty_uint8) rfl ?_
 refine rn tk 7 rfl ?_
 refine wq (ev_buflen (l := a0) rfl rfl ty_s_uint8.u) rfl rfl rfl ?_
 refine rn tk 4 rfl ?_
 refine al1 hr (fun s1 => [(3, .hs 1007 0), (8, .hs 1007 0), (9, .i ((a0.length : Int))), (10, .i s1.1)]) (fun s1 => [(1007, .buf s1.2)]) (.exit 0) (fun b2 => [(3, .hs 1007 0)]) (fun b2 => [(1007, .buf b2)]) rfl rfl (fun s1 x3 hr => ?_) (fun b2 hr => ?_)
 ·
  unfold basic_Lower_l1 at hr
  refine rn tk 6 rfl ?_
  refine ac 11 hr rfl (fun c4 hr => ?_) (fun c4 hr => ?_)
  ·
   refine rn tk 2 rfl ?_
   refine jb hr (fun j5 => [(3, .hs 1007 0), (8, .hs 1007 0), (9, .i ((a0.length : Int))), (10, .i s1.1)]) (fun j5 => [(1007, .buf j5)]) (fun j5 hr => ?_) (fun j5 hr => ?_)
   ·
    refine rn tk 4 rfl ?_
    obtain ⟨v6, h7, hr⟩ := bind_some hr
    refine wq (ev_bufidx (l := s1.2) (n := s1.1) rfl rfl rfl ty_s_uint8 ty_uint8 h7) rfl rfl rfl ?_
    obtain ⟨v8, h9, hr⟩ := bind_some hr
    refine wq (ev_bufload (l := s1.2) (n := s1.1) rfl rfl ty_uint8 h9) rfl rfl rfl ?_
    refine rn tk 4 rfl ?_
    refine jb hr (fun j10 => [(3, .hs 1007 0), (4, .i s1.1), (5, .u8 v8), (8, .hs 1007 0), (9, .i ((a0.length : Int))), (10, .i s1.1), (20, .bo j10)]) (fun j10 => [(1007, .buf s1.2)]) (fun j10 hr => ?_) (fun j10 hr => ?_)
    ·
     refine rn tk 4 rfl ?_
     refine bs 17 hr rfl (fun c11 hr => ?_) (fun c11 hr => ?_)
     ·
      refine rn tk 4 rfl ?_
      cases hr
      exact jn _ rfl rfl rfl
     ·
      refine rn tk 4 rfl ?_
      cases hr
      exact jn _ rfl rfl rfl
    ·
     refine ac 20 hr rfl (fun c12 hr => ?_) (fun c12 hr => ?_)
     ·
      refine rn tk 4 rfl ?_
      refine wq (ev_u8add (a := v8) (b := (97 : UInt8)) rfl rfl) rfl rfl rfl ?_
      refine wq (ev_u8sub (a := ((v8 + (97 : UInt8)))) (b := (65 : UInt8)) rfl rfl) rfl rfl rfl ?_
      obtain ⟨v13, h14, hr⟩ := bind_some hr
      refine wq (ev_bufidx (l := s1.2) (n := s1.1) rfl rfl rfl ty_s_uint8 ty_uint8 h14) rfl rfl rfl ?_
      obtain ⟨v15, h16, hr⟩ := bind_some hr
      refine wo (opTo_bufstore (l := s1.2) (n := s1.1) (v := v15) (v' := (((v8 + (97 : UInt8)) - (65 : UInt8)))) rfl rfl rfl ty_uint8 h16) rfl ?_
      refine rn tk 2 rfl ?_
      cases hr
      exact jn _ rfl rfl rfl
     ·
      refine rn tk 2 rfl ?_
      cases hr
      exact jn _ rfl rfl rfl
   ·
    refine rn tk 4 rfl ?_
    cases hr
    exact atc rfl rfl
  ·
   refine rn tk 2 rfl ?_
   cases hr
   exact ato rfl rfl rfl rfl
 ·
  refine rn tk 5 rfl ?_
  refine wq (ev_buf2s (l := b2) rfl rfl ty_s_uint8 ty_uint8 ty_string) rfl rfl rfl ?_
  refine rn tk 4 rfl ?_
  cases hr
  exact kr tk (.inr rfl) rfl rfl
theorem basic_Same_run (a0 : Str) (a1 : Str) (r : Bool) (hr : basic_Same a0 a1 = some r) : Run Tryz.prog 82 [.s a0, .s a1] (.bo r) := by
 unfold basic_Same at hr
 refine rf (fn := Tryz.f82) ⟨Tryz.func82, rfl, by kernel_rfl⟩ rfl (fun _ => rfl) fun g0 hg => ?_
 refine rn tk 5 rfl ?_
 refine jb hr (fun j1 => [(4, .bo j1)]) (fun j1 => []) (fun j1 hr => ?_) (fun j1 hr => ?_)
 ·
  refine rn tk 7 rfl ?_
  refine bs 10 hr rfl (fun c2 hr => ?_) (fun c2 hr => ?_)
  ·
   refine rn tk 1 rfl ?_
   obtain ⟨v3, h4, hr⟩ := bind_some hr
   refine ug rfl rfl rfl ?_
   refine cl (basic_Lower_run _ _ h4) rfl rfl ?_
   refine rn tk 1 rfl ?_
   obtain ⟨v5, h6, hr⟩ := bind_some hr
   refine ug rfl rfl rfl ?_
   refine cl (basic_Lower_run _ _ h6) rfl rfl ?_
   refine rn tk 4 rfl ?_
   cases hr
   exact jn _ rfl rfl rfl
  ·
   refine rn tk 8 rfl ?_
   cases hr
   exact jn _ rfl rfl rfl
 ·
  refine rn tk 1 rfl ?_
  cases hr
  exact kr tk (.inr rfl) rfl rfl
theorem header_name_run (a0 : Str) (r : Bool) (hr : header_name a0 = some r) : Run Tryz.prog 116 [.s a0] (.bo r) := by
 unfold header_name at hr
 refine rf (fn := Tryz.f116) ⟨Tryz.func116, rfl, by kernel_rfl⟩ rfl (fun _ => rfl) fun g0 hg => ?_
 refine rn tk 8 rfl ?_
 obtain ⟨v1, h2, hr⟩ := bind_some hr
 refine cl (fold_Fold_run _ _ _ h2) rfl rfl ?_
 refine rn tk 11 rfl ?_
 obtain ⟨v3, h4, hr⟩ := bind_some hr
 refine cl (basic_Failed_run _ _ h4) rfl rfl ?_
 refine rn tk 5 rfl ?_
 cases hr
 exact kr tk (.inr rfl) rfl rfl
theorem header_valid_run (a0 : List TField) (a1 : Str) (r : TFault) (hr : header_valid a0 a1 = some r) : Run Tryz.prog 81 [.l TField.pc a0, .s a1] (.agg [.i r.Code, .i r.Index]) := by
 unfold header_valid at hr
 refine rf (fn := Tryz.f81) ⟨Tryz.func81, rfl, by kernel_rfl⟩ rfl (fun _ => rfl) fun g0 hg => ?_
 refine rn tk 9 rfl ?_
 obtain ⟨v1, h2, hr⟩ := bind_some hr
 refine cl (header_Validate_run _ _ h2) rfl rfl ?_
 refine rn tk 7 rfl ?_
 obtain ⟨v3, h4, hr⟩ := bind_some hr
 refine cl (basic_Failed_run _ _ h4) rfl rfl ?_
 refine rn tk 2 rfl ?_
 refine ac 9 hr rfl (fun c5 hr => ?_) (fun c5 hr => ?_)
 ·
  refine rn tk 8 rfl ?_
  cases hr
  exact kr tk (.inr rfl) rfl rfl
 ·
  refine rn tk 6 rfl ?_
  obtain ⟨v6, h7, hr⟩ := bind_some hr
  refine cl (header_name_run _ _ h7) rfl rfl ?_
  refine rn tk 3 rfl ?_
  refine ac 13 hr rfl (fun c8 hr => ?_) (fun c8 hr => ?_)
  ·
   refine rn tk 2 rfl ?_
   obtain ⟨v9, h10, hr⟩ := bind_some hr
   refine cl (basic_Fault_run _ _ _ h10) rfl rfl ?_
   refine rn tk 5 rfl ?_
   cases hr
   exact kr tk (.inr rfl) rfl rfl
  ·
   refine rn tk 4 rfl ?_
   obtain ⟨v11, h12, hr⟩ := bind_some hr
   refine cl (basic_None_run _ h12) rfl rfl ?_
   refine rn tk 4 rfl ?_
   cases hr
   exact kr tk (.inr rfl) rfl rfl
theorem header_Get_run (a0 : List TField) (a1 : Str) (r : (List Str) × TFault) (hr : header_Get a0 a1 = some r) : Run Tryz.prog 43 [.l TField.pc a0, .s a1] (.tup [.l cS r.1, .agg [.i r.2.Code, .i r.2.Index]]) := by
 unfold header_Get at hr
 refine rf (fn := Tryz.f43) ⟨Tryz.func43, rfl, by kernel_rfl⟩ rfl (fun _ => rfl) fun g0 hg => ?_
 refine rn tk 11 rfl ?_
 obtain ⟨v1, h2, hr⟩ := bind_some hr
 refine cl (header_valid_run _ _ _ h2) rfl rfl ?_
 refine rn tk 7 rfl ?_
 obtain ⟨v3, h4, hr⟩ := bind_some hr
 refine cl (basic_Failed_run _ _ h4) rfl rfl ?_
 refine rn tk 2 rfl ?_
 refine ac 14 hr rfl (fun c5 hr => ?_) (fun c5 hr => ?_)
 ·
  refine rn tk 1 rfl ?_
  refine dr 2 [(4, .pv (.sl (some true) [])), (15, .agg [.i v1.Code, .i v1.Index])] mixed (by kernel_rfl) rfl rfl (pq tk rfl (.plain rfl) (pq tk rfl (.plain rfl) .nil)) rfl ?_
  refine rn tk 5 rfl ?_
  cases hr
  exact kr tk (.inr rfl) rfl rfl
 ·
  refine rn tk 5 rfl ?_
  refine awpl_adopt 1007 (d := 7) 9 1 rfl rfl rfl (hO ?_)
  refine rn tk 6 rfl ?_
  refine wn tk rfl rfl rfl ?_
  refine rn tk 4 rfl ?_
  refine al1 hr (fun s6 => [(1, .s a1), (5, .ptr 5 0), (7, .hs 1007 0), (16, .l TField.pc a0), (17, .i ((a0.length : Int))), (18, .i s6.1)]) (fun s6 => [(1007, .row 9 false 1 (List.map cS s6.2)), (5, .cells [.i 0, .i 0])]) (.exit 0) (fun b7 => [(5, .ptr 5 0), (7, .hs 1007 0)]) (fun b7 => [(1007, .row 9 false 1 (List.map cS b7)), (5, .cells [.i 0, .i 0])]) rfl rfl (fun s6 x8 hr => ?_) (fun b7 hr => ?_)
  ·
   unfold header_Get_l1 at hr
   refine rn tk 6 rfl ?_
   refine ac 19 hr rfl (fun c9 hr => ?_) (fun c9 hr => ?_)
   ·
    refine rn tk 2 rfl ?_
    refine jb hr (fun j10 => [(1, .s a1), (5, .ptr 5 0), (7, .hs 1007 0), (16, .l TField.pc a0), (17, .i ((a0.length : Int))), (18, .i s6.1)]) (fun j10 => [(1007, .row 9 false 1 (List.map cS j10)), (5, .cells [.i 0, .i 0])]) (fun j10 hr => ?_) (fun j10 hr => ?_)
    ·
     refine rn tk 3 rfl ?_
     obtain ⟨v11, h12, hr⟩ := bind_some hr
     refine wi tk h12 rfl rfl rfl rfl rfl ?_
     refine rn tk 10 rfl ?_
     obtain ⟨v13, h14, hr⟩ := bind_some hr
     refine cl (basic_Same_run _ _ _ h14) rfl rfl ?_
     refine rn tk 2 rfl ?_
     refine ac 25 hr rfl (fun c15 hr => ?_) (fun c15 hr => ?_)
     ·
      refine rn tk 4 rfl ?_
      refine wz cS ([v11.Value] : List Str) tk rfl rfl (fun _ => rfl) rfl rfl rfl ?_
      obtain ⟨v16, h17, hr⟩ := bind_some hr
      refine wa tk h17 rfl rfl rfl rfl (fun _ => rfl) rfl rfl ?_
      refine rn tk 3 rfl ?_
      cases hr
      exact jn _ rfl rfl rfl
     ·
      refine rn tk 2 rfl ?_
      cases hr
      exact jn _ rfl rfl rfl
    ·
     refine rn tk 4 rfl ?_
     cases hr
     exact atc rfl rfl
   ·
    refine rn tk 2 rfl ?_
    cases hr
    exact ato rfl rfl rfl rfl
  ·
   refine rn tk 5 rfl ?_
   obtain ⟨v18, h19, hr⟩ := bind_some hr
   refine cl (basic_None_run _ h19) rfl rfl ?_
   refine rn tk 4 rfl ?_
   refine awp_pub (d := 4) (F := cS) (l := b7) rfl rfl (hC ?_)
   refine rn tk 1 rfl ?_
   cases hr
   exact kr tk (.inr rfl) rfl rfl
theorem slices_Index_string_string_run (a0 : List Str) (a1 : Str) (r : Int) (hr : slices_Index_string_string a0 a1 = some r) : Run Tryz.prog 45 [.l cS a0, .s a1] (.i r) := by
 unfold slices_Index_string_string at hr
 refine rf (fn := Tryz.f45) ⟨Tryz.func45, rfl, by kernel_rfl⟩ rfl (fun _ => rfl) fun g0 hg => ?_
 refine rn tk 9 rfl ?_
 refine wn tk rfl rfl rfl ?_
 refine rn tk 4 rfl ?_
 refine al2 hr (fun s1 => [(0, .l cS a0), (1, .s a1), (7, .i ((a0.length : Int))), (8, .i s1)]) (fun s1 => []) (.exit 0) (fun b2 => []) (fun b2 => []) .ret (fun b3 => [(4, .i b3)]) (fun b3 => []) rfl rfl (fun s1 x5 hr => ?_) (fun b2 hr => ?_) (fun b3 hr => ?_)
 ·
  unfold slices_Index_string_string_l1 at hr
  refine rn tk 6 rfl ?_
  refine ac 9 hr rfl (fun c6 hr => ?_) (fun c6 hr => ?_)
  ·
   refine rn tk 15 rfl ?_
   obtain ⟨v7, h8, hr⟩ := bind_some hr
   refine wi tk h8 rfl rfl rfl rfl rfl ?_
   refine rn tk 4 rfl ?_
   refine ac 16 hr rfl (fun c9 hr => ?_) (fun c9 hr => ?_)
   ·
    refine rn tk 9 rfl ?_
    cases hr
    exact ato rfl rfl rfl rfl
   ·
    refine rn tk 7 rfl ?_
    cases hr
    exact atc rfl rfl
  ·
   refine rn tk 2 rfl ?_
   cases hr
   exact ato rfl rfl rfl rfl
 ·
  refine rn tk 8 rfl ?_
  cases hr
  exact kr tk (.inr rfl) rfl rfl
 ·
  refine rn tk 2 rfl ?_
  cases hr
  exact kr tk (.inr rfl) rfl rfl
theorem notice_list_run (a0 : Str) (r : (List TTold) × Bool) (hr : notice_list a0 = some r) : Run Tryz.prog 47 [.s a0] (.tup [.l TTold.pc r.1, .bo r.2]) := by
 unfold notice_list at hr
 refine rf (fn := Tryz.f47) ⟨Tryz.func47, rfl, by kernel_rfl⟩ rfl (fun _ => rfl) fun g0 hg => ?_
 refine rn tk 8 rfl ?_
 obtain ⟨v1, h2, hr⟩ := bind_some hr
 refine cl (notice_results_run _ h2) rfl rfl ?_
 refine rn tk 7 rfl ?_
 refine awpl_adopt 1005 (d := 5) 52 2 rfl rfl rfl (hO ?_)
 refine rn tk 4 rfl ?_
 refine awp_pubbox 4 (cs := [pS v1.1, pS v1.2.1, pS v1.2.2.1, pS v1.2.2.2]) rfl rfl (hC ?_)
 refine al2 hr (fun s4 => [(0, .s s4.1), (4, .ep [pS v1.1, pS v1.2.1, pS v1.2.2.1, pS v1.2.2.2]), (5, .hs 1005 0)]) (fun s4 => [(1005, .row 52 false 2 (List.map TTold.pc s4.2))]) (.exit 0) (fun b5 => [(5, .hs 1005 0)]) (fun b5 => [(1005, .row 52 false 2 (List.map TTold.pc b5))]) .ret (fun b6 => [(2, .l TTold.pc b6.1), (3, .bo b6.2)]) (fun b6 => []) rfl rfl (fun s4 x8 hr => ?_) (fun b5 hr => ?_) (fun b6 hr => ?_)
 ·
  unfold notice_list_l1 at hr
  refine rn tk 7 rfl ?_
  refine ac 15 hr rfl (fun c9 hr => ?_) (fun c9 hr => ?_)
  ·
   refine rn tk 6 rfl ?_
   obtain ⟨v10, h11, hr⟩ := bind_some hr
   refine cl (strings_Cut_run _ _ _ h11) rfl rfl ?_
   refine rn tk 12 rfl ?_
   obtain ⟨v12, h13, hr⟩ := bind_some hr
   refine cl (strings_Cut_run _ _ _ h13) rfl rfl ?_
   refine rn tk 11 rfl ?_
   refine wq (ev_sliceArr (F := cS) (l := ([v1.1, v1.2.1, v1.2.2.1, v1.2.2.2] : List Str)) rfl rfl (fun _ => rfl) rfl ty__4_string ty_string) rfl rfl rfl ?_
   refine rn tk 1 rfl ?_
   obtain ⟨v14, h15, hr⟩ := bind_some hr
   refine cl (slices_Index_string_string_run _ _ _ h15) rfl rfl ?_
   refine rn tk 4 rfl ?_
   refine jb hr (fun j16 => [(4, .ep [pS v1.1, pS v1.2.1, pS v1.2.2.1, pS v1.2.2.2]), (5, .hs 1005 0), (7, .s v10.2.1), (10, .s v12.2.1), (12, .i v14), (45, .bo j16)]) (fun j16 => [(1005, .row 52 false 2 (List.map TTold.pc s4.2))]) (fun j16 hr => ?_) (fun j16 hr => ?_)
   ·
    refine rn tk 4 rfl ?_
    refine bs 33 hr rfl (fun c17 hr => ?_) (fun c17 hr => ?_)
    ·
     refine rn tk 13 rfl ?_
     cases hr
     exact jn _ rfl rfl rfl
    ·
     refine rn tk 4 rfl ?_
     refine bs 37 hr rfl (fun c18 hr => ?_) (fun c18 hr => ?_)
     ·
      refine rn tk 9 rfl ?_
      cases hr
      exact jn _ rfl rfl rfl
     ·
      refine rn tk 4 rfl ?_
      refine bs 41 hr rfl (fun c19 hr => ?_) (fun c19 hr => ?_)
      ·
       refine rn tk 5 rfl ?_
       cases hr
       exact jn _ rfl rfl rfl
      ·
       refine rn tk 1 rfl ?_
       refine ug rfl rfl rfl ?_
       refine wnh tk rfl rfl rfl rfl ?_
       refine rn tk 3 rfl ?_
       cases hr
       exact jn _ rfl rfl rfl
   ·
    refine ac 45 hr rfl (fun c20 hr => ?_) (fun c20 hr => ?_)
    ·
     refine rn tk 9 rfl ?_
     cases hr
     exact ato rfl rfl rfl rfl
    ·
     refine rn tk 8 rfl ?_
     refine wz TTold.pc ([(TTold.mk v12.2.1 v14)] : List TTold) tk rfl rfl (fun _ => rfl) rfl rfl rfl ?_
     obtain ⟨v21, h22, hr⟩ := bind_some hr
     refine wa tk h22 rfl rfl rfl rfl (fun _ => rfl) rfl rfl ?_
     refine rn tk 8 rfl ?_
     cases hr
     exact atc rfl rfl
  ·
   refine rn tk 2 rfl ?_
   cases hr
   exact ato rfl rfl rfl rfl
 ·
  refine rn tk 6 rfl ?_
  refine awpl_pub (d := 54) (F := TTold.pc) (l := b5) rfl rfl (hO ?_)
  obtain ⟨v23, h24, hr⟩ := bind_some hr
  refine cl (notice_told_run _ _ h24) rfl rfl ?_
  obtain ⟨v25, h26, hr⟩ := bind_some hr
  refine cl (basic_Failed_run _ _ h26) rfl rfl ?_
  refine rn tk 5 rfl ?_
  refine awp_pub (d := 2) (F := TTold.pc) (l := b5) rfl rfl (hC ?_)
  refine rn tk 1 rfl ?_
  cases hr
  exact kr tk (.inr rfl) rfl rfl
 ·
  refine rn tk 2 rfl ?_
  cases hr
  exact kr tk (.inr rfl) rfl rfl
theorem notice_Read_run (a0 : TMessage) (r : TNotice × Bool × TFault) (hr : notice_Read a0 = some r) : Run Tryz.prog 14 [.agg [.l TField.pc a0.Fields, .l cU a0.Body]] (.tup [.agg [.i r.1.Kind, .s r.1.Id, .l TTold.pc r.1.Told], .bo r.2.1, .agg [.i r.2.2.Code, .i r.2.2.Index]]) := by
 unfold notice_Read at hr
 refine rf (fn := Tryz.f14) ⟨Tryz.func14, rfl, by kernel_rfl⟩ rfl (fun _ => rfl) fun g0 hg => ?_
 refine rn tk 12 rfl ?_
 obtain ⟨v1, h2, hr⟩ := bind_some hr
 refine cl (message_Validate_run _ _ h2) rfl rfl ?_
 refine rn tk 7 rfl ?_
 obtain ⟨v3, h4, hr⟩ := bind_some hr
 refine cl (basic_Failed_run _ _ h4) rfl rfl ?_
 refine rn tk 2 rfl ?_
 refine ac 18 hr rfl (fun c5 hr => ?_) (fun c5 hr => ?_)
 ·
  refine rn tk 1 rfl ?_
  refine drX 2 4 4 4 [1] [(20, .agg [.i v1.Code, .i v1.Index]), (19, .agg [.i 0, .s (([] : Str)), .pv (.sl (some true) [])])] [(2, .ptr 2 0), (3, .bo false), (4, .ptr 4 0), (20, .agg [.i v1.Code, .i v1.Index])] [(5, .cells [.i v1.Code, .i v1.Index]), (4, .cells [.i 0, .i 0]), (2, .cells [.i 0, .s (([] : Str)), .pv (.sl (some true) [])]), (1, .cells [.l TField.pc a0.Fields, .l cU a0.Body])] tk mixed (by kernel_rfl) rfl rfl rfl (pqX tk rfl (.plain rfl) (pqX tk rfl (.plain rfl) .nil)) rfl rfl rfl rfl (by kernel_rfl) ?_
  refine rn tk 5 rfl ?_
  cases hr
  exact kr tk (.inr rfl) rfl rfl
 ·
  refine rn tk 6 rfl ?_
  obtain ⟨v6, h7, hr⟩ := bind_some hr
  refine cl (header_Get_run _ _ _ h7) rfl rfl ?_
  refine rn tk 12 rfl ?_
  refine wn tk rfl rfl rfl ?_
  refine rn tk 3 rfl ?_
  refine ac 29 hr rfl (fun c8 hr => ?_) (fun c8 hr => ?_)
  ·
   refine rn tk 3 rfl ?_
   obtain ⟨v9, h10, hr⟩ := bind_some hr
   refine cl (basic_None_run _ h10) rfl rfl ?_
   refine rn tk 7 rfl ?_
   cases hr
   exact kr tk (.inr rfl) rfl rfl
  ·
   refine rn tk 5 rfl ?_
   obtain ⟨v11, h12, hr⟩ := bind_some hr
   refine wi tk h12 rfl rfl rfl rfl rfl ?_
   refine rn tk 1 rfl ?_
   obtain ⟨v13, h14, hr⟩ := bind_some hr
   refine cl (strings_Cut_run _ _ _ h14) rfl rfl ?_
   refine rn tk 11 rfl ?_
   obtain ⟨v15, h16, hr⟩ := bind_some hr
   refine cl (notice_kinds_run _ h16) rfl rfl ?_
   refine rn tk 6 rfl ?_
   refine awpl_pubbox 11 (cs := [pS v15.1, pS v15.2.1, pS v15.2.2.1, pS v15.2.2.2.1, pS v15.2.2.2.2]) rfl rfl (hO ?_)
   refine wq (ev_sliceArr (F := cS) (l := ([v15.1, v15.2.1, v15.2.2.1, v15.2.2.2.1, v15.2.2.2.2] : List Str)) rfl rfl (fun _ => rfl) rfl ty__5_string ty_string) rfl rfl rfl ?_
   refine rn tk 1 rfl ?_
   obtain ⟨v17, h18, hr⟩ := bind_some hr
   refine cl (slices_Index_string_string_run _ _ _ h18) rfl rfl ?_
   refine rn tk 4 rfl ?_
   refine jb hr (fun j19 => [(1, .ptr 1 0), (2, .ptr 2 0), (4, .ptr 4 0), (9, .s v13.2.1), (12, .i v17), (64, .bo j19)]) (fun j19 => [(4, .cells [.i 0, .i 0]), (2, .cells [.i 0, .s (([] : Str)), .l TTold.pc ([])]), (1, .cells [.l TField.pc a0.Fields, .l cU a0.Body])]) (fun j19 hr => ?_) (fun j19 hr => ?_)
   ·
    refine rn tk 4 rfl ?_
    refine bs 46 hr rfl (fun c20 hr => ?_) (fun c20 hr => ?_)
    ·
     refine rn tk 19 rfl ?_
     cases hr
     exact jn _ rfl rfl rfl
    ·
     refine rn tk 4 rfl ?_
     refine bs 50 hr rfl (fun c21 hr => ?_) (fun c21 hr => ?_)
     ·
      refine rn tk 15 rfl ?_
      cases hr
      exact jn _ rfl rfl rfl
     ·
      refine rn tk 2 rfl ?_
      refine bs 52 hr rfl (fun c22 hr => ?_) (fun c22 hr => ?_)
      ·
       refine rn tk 1 rfl ?_
       obtain ⟨v23, h24, hr⟩ := bind_some hr
       refine ug rfl rfl rfl ?_
       refine cl (basic_Name_run _ _ h24) rfl rfl ?_
       refine rn tk 4 rfl ?_
       refine bs 58 hr rfl (fun c25 hr => ?_) (fun c25 hr => ?_)
       ·
        refine rn tk 7 rfl ?_
        cases hr
        exact jn _ rfl rfl rfl
       ·
        refine rn tk 2 rfl ?_
        obtain ⟨v26, h27, hr⟩ := bind_some hr
        refine ug rfl rfl rfl ?_
        refine cl (notice_id_run _ _ _ h27) rfl rfl ?_
        refine rn tk 4 rfl ?_
        cases hr
        exact jn _ rfl rfl rfl
      ·
       refine rn tk 8 rfl ?_
       obtain ⟨v28, h29, hr⟩ := bind_some hr
       refine ug rfl rfl rfl ?_
       refine cl (notice_id_run _ _ _ h29) rfl rfl ?_
       refine rn tk 4 rfl ?_
       cases hr
       exact jn _ rfl rfl rfl
   ·
    refine ac 64 hr rfl (fun c30 hr => ?_) (fun c30 hr => ?_)
    ·
     refine rn tk 3 rfl ?_
     obtain ⟨v31, h32, hr⟩ := bind_some hr
     refine cl (basic_None_run _ h32) rfl rfl ?_
     refine rn tk 7 rfl ?_
     cases hr
     exact kr tk (.inr rfl) rfl rfl
    ·
     refine rn tk 6 rfl ?_
     refine wb tk rfl rfl rfl ?_
     obtain ⟨v33, h34, hr⟩ := bind_some hr
     refine cl (notice_list_run _ _ h34) rfl rfl ?_
     refine rn tk 14 rfl ?_
     refine ac 75 hr rfl (fun c35 hr => ?_) (fun c35 hr => ?_)
     ·
      refine rn tk 3 rfl ?_
      obtain ⟨v36, h37, hr⟩ := bind_some hr
      refine cl (basic_None_run _ h37) rfl rfl ?_
      refine rn tk 7 rfl ?_
      cases hr
      exact kr tk (.inr rfl) rfl rfl
     ·
      refine rn tk 8 rfl ?_
      obtain ⟨v38, h39, hr⟩ := bind_some hr
      refine cl (basic_None_run _ h39) rfl rfl ?_
      refine rn tk 6 rfl ?_
      cases hr
      exact kr tk (.inr rfl) rfl rfl
theorem bounce_Due_run (a0 : TMail) (a1 : List Int) (a2 : Int) (r : (List TMail) × TFault) (hr : bounce_Due a0 a1 a2 = some r) : Run Tryz.prog 11 [.agg [.s a0.Envelope.From, .l TRecipient.pc a0.Envelope.To, .s a0.Envelope.Id, .l TField.pc a0.Message.Fields, .l cU a0.Message.Body], .l cI a1, .i a2] (.tup [.l TMail.pc r.1, .agg [.i r.2.Code, .i r.2.Index]]) := by
 unfold bounce_Due at hr
 refine rf (fn := Tryz.f11) ⟨Tryz.func11, rfl, by kernel_rfl⟩ rfl (fun _ => rfl) fun g0 hg => ?_
 refine rn tk 11 rfl ?_
 obtain ⟨v1, h2, hr⟩ := bind_some hr
 refine cl (envelope_Check_run _ _ h2) rfl rfl ?_
 refine rn tk 7 rfl ?_
 obtain ⟨v3, h4, hr⟩ := bind_some hr
 refine cl (basic_Failed_run _ _ h4) rfl rfl ?_
 refine rn tk 2 rfl ?_
 refine ac 26 hr rfl (fun c5 hr => ?_) (fun c5 hr => ?_)
 ·
  refine rn tk 1 rfl ?_
  refine dr 2 [(6, .pv (.sl (some true) [])), (27, .agg [.i v1.Code, .i v1.Index])] mixed (by kernel_rfl) rfl rfl (pq tk rfl (.plain rfl) (pq tk rfl (.plain rfl) .nil)) rfl ?_
  refine rn tk 5 rfl ?_
  cases hr
  exact kr tk (.inr rfl) rfl rfl
 ·
  refine rn tk 14 rfl ?_
  refine wn tk rfl rfl rfl ?_
  refine rn tk 1 rfl ?_
  refine wn tk rfl rfl rfl ?_
  refine rn tk 3 rfl ?_
  refine ac 35 hr rfl (fun c6 hr => ?_) (fun c6 hr => ?_)
  ·
   refine rn tk 2 rfl ?_
   obtain ⟨v7, h8, hr⟩ := bind_some hr
   refine cl (basic_Fault_run _ _ _ h8) rfl rfl ?_
   refine rn tk 6 rfl ?_
   cases hr
   exact kr tk (.inr rfl) rfl rfl
  ·
   refine rn tk 6 rfl ?_
   refine wn tk rfl rfl rfl ?_
   refine rn tk 4 rfl ?_
   refine al2 hr (fun s9 => [(1, .l cI a1), (2, .i a2), (3, .ptr 3 0), (7, .ptr 7 0), (9, .l TRecipient.pc a0.Envelope.To), (37, .l cI a1), (38, .i ((a1.length : Int))), (39, .i s9)]) (fun s9 => [(7, .cells [.i 0, .i 0]), (3, .cells [.s a0.Envelope.From, .l TRecipient.pc a0.Envelope.To, .s a0.Envelope.Id, .l TField.pc a0.Message.Fields, .l cU a0.Message.Body])]) (.exit 0) (fun b10 => [(1, .l cI a1), (2, .i a2), (3, .ptr 3 0), (7, .ptr 7 0), (9, .l TRecipient.pc a0.Envelope.To)]) (fun b10 => [(7, .cells [.i 0, .i 0]), (3, .cells [.s a0.Envelope.From, .l TRecipient.pc a0.Envelope.To, .s a0.Envelope.Id, .l TField.pc a0.Message.Fields, .l cU a0.Message.Body])]) .ret (fun b11 => [(6, .l TMail.pc b11.1), (7, .ptr 7 0)]) (fun b11 => [(7, .cells [.i b11.2.Code, .i b11.2.Index])]) rfl rfl (fun s9 x13 hr => ?_) (fun b10 hr => ?_) (fun b11 hr => ?_)
   ·
    unfold bounce_Due_l1 at hr
    refine rn tk 6 rfl ?_
    refine ac 40 hr rfl (fun c14 hr => ?_) (fun c14 hr => ?_)
    ·
     refine rn tk 6 rfl ?_
     obtain ⟨v15, h16, hr⟩ := bind_some hr
     refine wi tk h16 rfl rfl rfl rfl rfl ?_
     refine rn tk 4 rfl ?_
     refine jb hr (fun j17 => [(1, .l cI a1), (2, .i a2), (3, .ptr 3 0), (7, .ptr 7 0), (9, .l TRecipient.pc a0.Envelope.To), (37, .l cI a1), (38, .i ((a1.length : Int))), (39, .i s9), (48, .bo j17)]) (fun j17 => [(7, .cells [.i 0, .i 0]), (3, .cells [.s a0.Envelope.From, .l TRecipient.pc a0.Envelope.To, .s a0.Envelope.Id, .l TField.pc a0.Message.Fields, .l cU a0.Message.Body])]) (fun j17 hr => ?_) (fun j17 hr => ?_)
     ·
      refine rn tk 4 rfl ?_
      refine bs 45 hr rfl (fun c18 hr => ?_) (fun c18 hr => ?_)
      ·
       refine rn tk 4 rfl ?_
       cases hr
       exact jn _ rfl rfl rfl
      ·
       refine rn tk 4 rfl ?_
       cases hr
       exact jn _ rfl rfl rfl
     ·
      refine ac 48 hr rfl (fun c19 hr => ?_) (fun c19 hr => ?_)
      ·
       refine rn tk 2 rfl ?_
       obtain ⟨v20, h21, hr⟩ := bind_some hr
       refine cl (basic_Fault_run _ _ _ h21) rfl rfl ?_
       refine rn tk 7 rfl ?_
       cases hr
       exact ato rfl rfl rfl rfl
      ·
       refine rn tk 7 rfl ?_
       cases hr
       exact atc rfl rfl
    ·
     refine rn tk 2 rfl ?_
     cases hr
     exact ato rfl rfl rfl rfl
   ·
    refine rn tk 7 rfl ?_
    obtain ⟨v22, h23, hr⟩ := bind_some hr
    refine cl (notice_Read_run _ _ h23) rfl rfl ?_
    refine rn tk 11 rfl ?_
    refine jb hr (fun j24 => [(1, .l cI a1), (2, .i a2), (3, .ptr 3 0), (7, .ptr 7 0), (9, .l TRecipient.pc a0.Envelope.To), (64, .bo j24)]) (fun j24 => [(7, .cells [.i 0, .i 0]), (3, .cells [.s a0.Envelope.From, .l TRecipient.pc a0.Envelope.To, .s a0.Envelope.Id, .l TField.pc a0.Message.Fields, .l cU a0.Message.Body])]) (fun j24 hr => ?_) (fun j24 hr => ?_)
    ·
     refine rn tk 3 rfl ?_
     refine bs 59 hr rfl (fun c25 hr => ?_) (fun c25 hr => ?_)
     ·
      refine rn tk 6 rfl ?_
      cases hr
      exact jn _ rfl rfl rfl
     ·
      refine rn tk 6 rfl ?_
      cases hr
      exact jn _ rfl rfl rfl
    ·
     refine ac 64 hr rfl (fun c26 hr => ?_) (fun c26 hr => ?_)
     ·
      refine rn tk 2 rfl ?_
      obtain ⟨v27, h28, hr⟩ := bind_some hr
      refine cl (basic_None_run _ h28) rfl rfl ?_
      refine rn tk 6 rfl ?_
      cases hr
      exact kr tk (.inr rfl) rfl rfl
     ·
      refine rn tk 5 rfl ?_
      refine awpl_adopt 1015 (d := 15) 30 5 rfl rfl rfl (hO ?_)
      refine rn tk 8 rfl ?_
      refine wq (ev_buildA (cs := [.i 1, .i 3, .i 2, .i 2, .i 4, .i 1]) ty__3_bounce_due ty_bounce_due (.inr ⟨rfl, rfl⟩) (by kernel_rfl)) rfl rfl rfl ?_
      refine rn tk 4 rfl ?_
      refine al2 hr (fun s29 => [(1, .l cI a1), (2, .i a2), (3, .ptr 3 0), (7, .ptr 7 0), (9, .l TRecipient.pc a0.Envelope.To), (15, .hs 1015 0), (69, .agg [.i 1, .i 3, .i 2, .i 2, .i 4, .i 1]), (70, .i s29.1)]) (fun s29 => [(1015, .row 30 false 5 (List.map TMail.pc s29.2)), (7, .cells [.i 0, .i 0]), (3, .cells [.s a0.Envelope.From, .l TRecipient.pc a0.Envelope.To, .s a0.Envelope.Id, .l TField.pc a0.Message.Fields, .l cU a0.Message.Body])]) (.exit 2) (fun b30 => [(7, .ptr 7 0), (15, .hs 1015 0)]) (fun b30 => [(1015, .row 30 false 5 (List.map TMail.pc b30)), (7, .cells [.i 0, .i 0])]) .ret (fun b31 => [(6, .l TMail.pc b31.1), (7, .ptr 7 0)]) (fun b31 => [(7, .cells [.i b31.2.Code, .i b31.2.Index])]) rfl rfl (fun s29 x33 hr => ?_) (fun b30 hr => ?_) (fun b31 hr => ?_)
      ·
       unfold bounce_Due_l2 at hr
       refine rn tk 6 rfl ?_
       refine ac 71 hr rfl (fun c34 hr => ?_) (fun c34 hr => ?_)
       ·
        refine rn tk 2 rfl ?_
        refine jk (fun j35 => [(1, .l cI a1), (2, .i a2), (3, .ptr 3 0), (7, .ptr 7 0), (9, .l TRecipient.pc a0.Envelope.To), (15, .hs 1015 0), (69, .agg [.i 1, .i 3, .i 2, .i 2, .i 4, .i 1]), (70, .i s29.1)]) (fun j35 => [(1015, .row 30 false 5 (List.map TMail.pc j35)), (7, .cells [.i 0, .i 0]), (3, .cells [.s a0.Envelope.From, .l TRecipient.pc a0.Envelope.To, .s a0.Envelope.Id, .l TField.pc a0.Message.Fields, .l cU a0.Message.Body])]) (fun j35 => bounce_Due_k3 s29 j35 = some x33) ?_ ?_
        ·
         refine rn tk 3 rfl ?_
         obtain ⟨v36, h37, hr⟩ := bind_some hr
         refine wq (ev_aidxN (f := Tbounce_due.pc) (L := ([(Tbounce_due.mk 1 3), (Tbounce_due.mk 2 2), (Tbounce_due.mk 4 1)] : List Tbounce_due)) rfl rfl ty__3_bounce_due ty_bounce_due rfl rfl (fun _ => rfl) h37) rfl rfl rfl ?_
         refine rn tk 7 rfl ?_
         refine awpl_adopt 1018 (d := 18) 52 2 rfl rfl rfl (hO ?_)
         refine rn tk 6 rfl ?_
         refine wn tk rfl rfl rfl ?_
         refine rn tk 4 rfl ?_
         refine al1 hr (fun s38 => [(1, .l cI a1), (2, .i a2), (3, .ptr 3 0), (7, .ptr 7 0), (9, .l TRecipient.pc a0.Envelope.To), (15, .hs 1015 0), (17, .ptr 17 0), (18, .hs 1018 0), (69, .agg [.i 1, .i 3, .i 2, .i 2, .i 4, .i 1]), (70, .i s29.1), (73, .l cI a1), (74, .i ((a1.length : Int))), (75, .i s38.1)]) (fun s38 => [(1018, .row 52 false 2 (List.map TTold.pc s38.2)), (17, .cells [.i v36.kind, .i v36.result]), (1015, .row 30 false 5 (List.map TMail.pc s29.2)), (7, .cells [.i 0, .i 0]), (3, .cells [.s a0.Envelope.From, .l TRecipient.pc a0.Envelope.To, .s a0.Envelope.Id, .l TField.pc a0.Message.Fields, .l cU a0.Message.Body])]) (.exit 4) (fun b39 => [(1, .l cI a1), (2, .i a2), (3, .ptr 3 0), (7, .ptr 7 0), (9, .l TRecipient.pc a0.Envelope.To), (15, .hs 1015 0), (17, .ptr 17 0), (18, .hs 1018 0), (69, .agg [.i 1, .i 3, .i 2, .i 2, .i 4, .i 1]), (70, .i s29.1)]) (fun b39 => [(1018, .row 52 false 2 (List.map TTold.pc b39)), (17, .cells [.i v36.kind, .i v36.result]), (1015, .row 30 false 5 (List.map TMail.pc s29.2)), (7, .cells [.i 0, .i 0]), (3, .cells [.s a0.Envelope.From, .l TRecipient.pc a0.Envelope.To, .s a0.Envelope.Id, .l TField.pc a0.Message.Fields, .l cU a0.Message.Body])]) rfl rfl (fun s38 x40 hr => ?_) (fun b39 hr => ?_)
         ·
          unfold bounce_Due_l4 at hr
          refine rn tk 6 rfl ?_
          refine ac 76 hr rfl (fun c41 hr => ?_) (fun c41 hr => ?_)
          ·
           refine rn tk 2 rfl ?_
           refine jb hr (fun j42 => [(1, .l cI a1), (2, .i a2), (3, .ptr 3 0), (7, .ptr 7 0), (9, .l TRecipient.pc a0.Envelope.To), (15, .hs 1015 0), (17, .ptr 17 0), (18, .hs 1018 0), (69, .agg [.i 1, .i 3, .i 2, .i 2, .i 4, .i 1]), (70, .i s29.1), (73, .l cI a1), (74, .i ((a1.length : Int))), (75, .i s38.1)]) (fun j42 => [(1018, .row 52 false 2 (List.map TTold.pc j42)), (17, .cells [.i v36.kind, .i v36.result]), (1015, .row 30 false 5 (List.map TMail.pc s29.2)), (7, .cells [.i 0, .i 0]), (3, .cells [.s a0.Envelope.From, .l TRecipient.pc a0.Envelope.To, .s a0.Envelope.Id, .l TField.pc a0.Message.Fields, .l cU a0.Message.Body])]) (fun j42 hr => ?_) (fun j42 hr => ?_)
           ·
            refine rn tk 4 rfl ?_
            obtain ⟨v43, h44, hr⟩ := bind_some hr
            refine wi tk h44 rfl rfl rfl rfl rfl ?_
            refine rn tk 5 rfl ?_
            refine jb hr (fun j45 => [(1, .l cI a1), (2, .i a2), (3, .ptr 3 0), (7, .ptr 7 0), (9, .l TRecipient.pc a0.Envelope.To), (15, .hs 1015 0), (17, .ptr 17 0), (18, .hs 1018 0), (19, .i s38.1), (20, .i v43), (69, .agg [.i 1, .i 3, .i 2, .i 2, .i 4, .i 1]), (70, .i s29.1), (73, .l cI a1), (74, .i ((a1.length : Int))), (75, .i s38.1), (94, .bo j45)]) (fun j45 => [(1018, .row 52 false 2 (List.map TTold.pc s38.2)), (17, .cells [.i v36.kind, .i v36.result]), (1015, .row 30 false 5 (List.map TMail.pc s29.2)), (7, .cells [.i 0, .i 0]), (3, .cells [.s a0.Envelope.From, .l TRecipient.pc a0.Envelope.To, .s a0.Envelope.Id, .l TField.pc a0.Message.Fields, .l cU a0.Message.Body])]) (fun j45 hr => ?_) (fun j45 hr => ?_)
            ·
             refine bool_split ((v43 == v36.result)) (fun c46 => ?_) (fun c46 => ?_)
             ·
              replace hr := cond_t c46 hr
              obtain ⟨v47, h48, hr⟩ := bind_some hr
              refine dr 12 [(91, .i v36.kind), (90, .ptr 17 0), (89, .i v47.Notify), (88, .ep [pI v47.Notify]), (87, .ep [pS v47.Address, pI v47.Notify]), (86, .i s38.1), (85, .l TRecipient.pc a0.Envelope.To), (84, .bo ((v43 == v36.result))), (83, .bo ((v43 == v36.result))), (82, .i v36.result), (81, .ptr 17 1), (80, .i v43)] mixed (by kernel_rfl) rfl rfl (pq tk rfl (.plain rfl) (pq tk rfl (.plain rfl) (pq tk rfl (.plain rfl) (pq tk rfl (.plain rfl) (pq tk rfl (.plain rfl) (pq tk rfl (.yes (d := 84) rfl rfl rfl c46) (pq tk rfl (.yes (d := 84) rfl rfl rfl c46) (.run (.yes (d := 84) rfl rfl rfl c46) (opG_q (ev_idx (f := TRecipient.pc) rfl rfl ty_s_api_Recipient ty_api_Recipient rfl h48)) (pq tk rfl (.yes (d := 84) rfl rfl rfl c46) (pq tk rfl (.yes (d := 84) rfl rfl rfl c46) (pq tk rfl (.yes (d := 84) rfl rfl rfl c46) (pq tk rfl (.yes (d := 84) rfl rfl rfl c46) .nil)))))))))))) rfl ?_
              refine kn 84 c46 rfl ?_
              refine ug rfl rfl rfl ?_
              refine wq (ev_iand rfl rfl) rfl rfl rfl ?_
              refine rn tk 3 rfl ?_
              cases hr
              exact jn _ rfl rfl rfl
             ·
              replace hr := cond_f c46 hr
              refine dr 12 [(91, .tup []), (90, .tup []), (89, .tup []), (88, .tup []), (87, .tup []), (86, .tup []), (85, .tup []), (84, .bo ((v43 == v36.result))), (83, .bo ((v43 == v36.result))), (82, .i v36.result), (81, .ptr 17 1), (80, .i v43)] mixed (by kernel_rfl) rfl rfl (pq tk rfl (.plain rfl) (pq tk rfl (.plain rfl) (pq tk rfl (.plain rfl) (pq tk rfl (.plain rfl) (pq tk rfl (.plain rfl) (.skip (.no (d := 84) rfl rfl rfl c46) (.skip (.no (d := 84) rfl rfl rfl c46) (.skip (.no (d := 84) rfl rfl rfl c46) (.skip (.no (d := 84) rfl rfl rfl c46) (.skip (.no (d := 84) rfl rfl rfl c46) (.skip (.no (d := 84) rfl rfl rfl c46) (.skip (.no (d := 84) rfl rfl rfl c46) .nil)))))))))))) rfl ?_
              refine kn 84 c46 rfl ?_
              refine rn tk 4 rfl ?_
              cases hr
              exact jn _ rfl rfl rfl
            ·
             refine ac 94 hr rfl (fun c49 hr => ?_) (fun c49 hr => ?_)
             ·
              refine rn tk 4 rfl ?_
              obtain ⟨v50, h51, hr⟩ := bind_some hr
              refine wi tk h51 rfl rfl rfl rfl rfl ?_
              refine rn tk 4 rfl ?_
              refine wz TTold.pc ([(TTold.mk v50.Address v43)] : List TTold) tk rfl rfl (fun _ => rfl) rfl rfl rfl ?_
              obtain ⟨v52, h53, hr⟩ := bind_some hr
              refine wa tk h53 rfl rfl rfl rfl (fun _ => rfl) rfl rfl ?_
              refine rn tk 3 rfl ?_
              cases hr
              exact jn _ rfl rfl rfl
             ·
              refine rn tk 2 rfl ?_
              cases hr
              exact jn _ rfl rfl rfl
           ·
            refine rn tk 4 rfl ?_
            cases hr
            exact atc rfl rfl
          ·
           refine rn tk 2 rfl ?_
           cases hr
           exact ato rfl rfl rfl rfl
         ·
          refine rn tk 6 rfl ?_
          refine wnh tk rfl rfl rfl rfl ?_
          refine rn tk 3 rfl ?_
          refine ac 108 hr rfl (fun c54 hr => ?_) (fun c54 hr => ?_)
          ·
           refine rn tk 3 rfl ?_
           exact jn s29.2 hr rfl rfl
          ·
           refine rn tk 9 rfl ?_
           refine awpl_pub (d := 113) (F := TTold.pc) (l := b39) rfl rfl (hO ?_)
           obtain ⟨v55, h56, hr⟩ := bind_some hr
           refine cl (notice_Make_run _ _ _ _ _ h56) rfl rfl ?_
           refine rn tk 13 rfl ?_
           obtain ⟨v57, h58, hr⟩ := bind_some hr
           refine cl (basic_Failed_run _ _ h58) rfl rfl ?_
           refine rn tk 2 rfl ?_
           refine ac 119 hr rfl (fun c59 hr => ?_) (fun c59 hr => ?_)
           ·
            refine rn tk 1 rfl ?_
            refine dr 2 [(6, .pv (.sl (some true) [])), (120, .agg [.i v55.2.Code, .i v55.2.Index])] mixed (by kernel_rfl) rfl rfl (pq tk rfl (.plain rfl) (pq tk rfl (.plain rfl) .nil)) rfl ?_
            refine rn tk 7 rfl ?_
            cases hr
            exact ato rfl rfl rfl rfl
           ·
            refine rn tk 5 rfl ?_
            refine wz TMail.pc ([v55.1] : List TMail) tk rfl rfl (fun _ => rfl) rfl rfl rfl ?_
            obtain ⟨v60, h61, hr⟩ := bind_some hr
            refine wa tk h61 rfl rfl rfl rfl (fun _ => rfl) rfl rfl ?_
            refine rn tk 3 rfl ?_
            exact jn v60 hr rfl rfl
        ·
         intro j35 hr
         unfold bounce_Due_k3 at hr
         refine rn tk 4 rfl ?_
         cases hr
         exact atc rfl rfl
       ·
        refine rn tk 2 rfl ?_
        cases hr
        exact ato rfl rfl rfl rfl
      ·
       refine rn tk 5 rfl ?_
       obtain ⟨v62, h63, hr⟩ := bind_some hr
       refine cl (basic_None_run _ h63) rfl rfl ?_
       refine rn tk 4 rfl ?_
       refine awp_pub (d := 6) (F := TMail.pc) (l := b30) rfl rfl (hC ?_)
       refine rn tk 1 rfl ?_
       cases hr
       exact kr tk (.inr rfl) rfl rfl
      ·
       refine rn tk 2 rfl ?_
       cases hr
       exact kr tk (.inr rfl) rfl rfl
   ·
    refine rn tk 2 rfl ?_
    cases hr
    exact kr tk (.inr rfl) rfl rfl
theorem L_dues_run  (r : Bool) (hr : L_dues = some r) : Run Tryz.prog 12 [] (.bo r) := by
 unfold L_dues at hr
 refine rf (fn := Tryz.f12) ⟨Tryz.func12, rfl, by kernel_rfl⟩ rfl (fun _ => rfl) fun g0 hg => ?_
 refine rn tk 7 rfl ?_
 refine wz cS ([([97, 64, 121] : Str), ([98, 64, 121] : Str)] : List Str) tk rfl rfl (fun _ => rfl) rfl rfl rfl ?_
 obtain ⟨v1, h2, hr⟩ := bind_some hr
 refine cl (L_plain_run _ _ h2) rfl rfl ?_
 refine wz cI ([3, 1] : List Int) tk rfl rfl (fun _ => rfl) rfl rfl rfl ?_
 obtain ⟨v3, h4, hr⟩ := bind_some hr
 refine cl (bounce_Due_run _ _ _ _ h4) rfl rfl ?_
 refine rn tk 10 rfl ?_
 refine wz cS ([([97, 64, 121] : Str)] : List Str) tk rfl rfl (fun _ => rfl) rfl rfl rfl ?_
 obtain ⟨v5, h6, hr⟩ := bind_some hr
 refine cl (L_plain_run _ _ h6) rfl rfl ?_
 refine wz cI ([0] : List Int) tk rfl rfl (fun _ => rfl) rfl rfl rfl ?_
 obtain ⟨v7, h8, hr⟩ := bind_some hr
 refine cl (bounce_Due_run _ _ _ _ h8) rfl rfl ?_
 refine rn tk 10 rfl ?_
 refine wz cS ([([97, 64, 121] : Str)] : List Str) tk rfl rfl (fun _ => rfl) rfl rfl rfl ?_
 obtain ⟨v9, h10, hr⟩ := bind_some hr
 refine cl (L_plain_run _ _ h10) rfl rfl ?_
 obtain ⟨v11, h12, hr⟩ := bind_some hr
 refine cl (bounce_Due_run _ _ _ _ h12) rfl rfl ?_
 refine rn tk 8 rfl ?_
 refine jb hr (fun j13 => [(0, .bo j13)]) (fun j13 => []) (fun j13 hr => ?_) (fun j13 hr => ?_)
 ·
  refine bool_split ((v3.2.Code == 0)) (fun c14 => ?_) (fun c14 => ?_)
  ·
   replace hr := cond_t c14 hr
   refine bool_split ((v7.2.Code == 0)) (fun c15 => ?_) (fun c15 => ?_)
   ·
    replace hr := cond_t c15 hr
    obtain ⟨v16, h17, hr⟩ := bind_some hr
    refine dr 11 [(37, .agg [.i v16.Code, .i v16.Index]), (36, .agg [.i v11.2.Code, .i v11.2.Index]), (35, .bo ((v7.2.Code == 0))), (34, .bo ((v7.2.Code == 0))), (33, .bo ((v7.2.Code == 0))), (32, .i v7.2.Code), (31, .ptr 4 0), (30, .bo ((v3.2.Code == 0))), (29, .bo ((v3.2.Code == 0))), (28, .i v3.2.Code), (27, .ptr 2 0)] mixed (by kernel_rfl) rfl rfl (pq tk rfl (.plain rfl) (pq tk rfl (.plain rfl) (pq tk rfl (.plain rfl) (pq tk rfl (.plain rfl) (pq tk rfl (.yes (d := 30) rfl rfl rfl c14) (pq tk rfl (.yes (d := 30) rfl rfl rfl c14) (pq tk rfl (.yes (d := 30) rfl rfl rfl c14) (.run (.plain rfl) (opG_q (ev_pick_t rfl c14)) (pq tk rfl (.plain rfl) (pq tk rfl (.yes (d := 35) rfl rfl rfl c15) (.run (.yes (d := 35) rfl rfl rfl c15) (opG_call (R_At_run 9 ((-17)) v16 h17) rfl) .nil))))))))))) rfl ?_
    refine kn 35 c15 rfl ?_
    refine ug rfl rfl rfl ?_
    refine wq (ev_structeq rfl rfl ty_api_Fault cmp_api_Fault (.int rfl (by decide) ty_int (.int rfl (by decide) ty_int .nil))) rfl rfl rfl ?_
    refine rn tk 2 rfl ?_
    refine bs 40 hr rfl (fun c18 hr => ?_) (fun c18 hr => ?_)
    ·
     refine rn tk 1 rfl ?_
     refine ug rfl rfl rfl ?_
     refine wn tk rfl rfl rfl ?_
     refine rn tk 3 rfl ?_
     refine bs 45 hr rfl (fun c19 hr => ?_) (fun c19 hr => ?_)
     ·
      refine rn tk 1 rfl ?_
      refine ug rfl rfl rfl ?_
      refine wn tk rfl rfl rfl ?_
      refine rn tk 3 rfl ?_
      refine bs 50 hr rfl (fun c20 hr => ?_) (fun c20 hr => ?_)
      ·
       refine rn tk 1 rfl ?_
       obtain ⟨v21, h22, hr⟩ := bind_some hr
       refine ug rfl rfl rfl ?_
       refine wi tk h22 rfl rfl rfl rfl rfl ?_
       refine rn tk 7 rfl ?_
       cases hr
       exact jn _ rfl rfl rfl
      ·
       refine rn tk 9 rfl ?_
       cases hr
       exact jn _ rfl rfl rfl
     ·
      refine rn tk 14 rfl ?_
      cases hr
      exact jn _ rfl rfl rfl
    ·
     refine rn tk 19 rfl ?_
     cases hr
     exact jn _ rfl rfl rfl
   ·
    replace hr := cond_f c15 hr
    refine dr 11 [(37, .tup []), (36, .tup []), (35, .bo ((v7.2.Code == 0))), (34, .bo ((v7.2.Code == 0))), (33, .bo ((v7.2.Code == 0))), (32, .i v7.2.Code), (31, .ptr 4 0), (30, .bo ((v3.2.Code == 0))), (29, .bo ((v3.2.Code == 0))), (28, .i v3.2.Code), (27, .ptr 2 0)] mixed (by kernel_rfl) rfl rfl (pq tk rfl (.plain rfl) (pq tk rfl (.plain rfl) (pq tk rfl (.plain rfl) (pq tk rfl (.plain rfl) (pq tk rfl (.yes (d := 30) rfl rfl rfl c14) (pq tk rfl (.yes (d := 30) rfl rfl rfl c14) (pq tk rfl (.yes (d := 30) rfl rfl rfl c14) (.run (.plain rfl) (opG_q (ev_pick_t rfl c14)) (pq tk rfl (.plain rfl) (.skip (.no (d := 35) rfl rfl rfl c15) (.skip (.no (d := 35) rfl rfl rfl c15) .nil))))))))))) rfl ?_
    refine kn 35 c15 rfl ?_
    refine rn tk 22 rfl ?_
    cases hr
    exact jn _ rfl rfl rfl
  ·
   replace hr := cond_f c14 hr
   refine dr 11 [(37, .tup []), (36, .tup []), (35, .bo false), (34, .bo false), (33, .tup []), (32, .tup []), (31, .tup []), (30, .bo ((v3.2.Code == 0))), (29, .bo ((v3.2.Code == 0))), (28, .i v3.2.Code), (27, .ptr 2 0)] mixed (by kernel_rfl) rfl rfl (pq tk rfl (.plain rfl) (pq tk rfl (.plain rfl) (pq tk rfl (.plain rfl) (pq tk rfl (.plain rfl) (.skip (.no (d := 30) rfl rfl rfl c14) (.skip (.no (d := 30) rfl rfl rfl c14) (.skip (.no (d := 30) rfl rfl rfl c14) (.run (.plain rfl) (opG_q (ev_pick_f rfl c14)) (pq tk rfl (.plain rfl) (.skip (.no (d := 35) rfl rfl rfl rfl) (.skip (.no (d := 35) rfl rfl rfl rfl) .nil))))))))))) rfl ?_
   refine rn tk 22 rfl ?_
   cases hr
   exact jn _ rfl rfl rfl
 ·
  refine rn tk 1 rfl ?_
  cases hr
  exact kr tk (.inr rfl) rfl rfl
theorem L_BounceTellsEachOnce_run (a0 : TMail) (a1 : List Int) (a2 : Int) (r : Bool) (hr : L_BounceTellsEachOnce a0 a1 a2 = some r) : Run Tryz.prog 5 [.agg [.s a0.Envelope.From, .l TRecipient.pc a0.Envelope.To, .s a0.Envelope.Id, .l TField.pc a0.Message.Fields, .l cU a0.Message.Body], .l cI a1, .i a2] (.bo r) := by
 unfold L_BounceTellsEachOnce at hr
 refine rf (fn := Tryz.f5) ⟨Tryz.func5, rfl, by kernel_rfl⟩ rfl (fun _ => rfl) fun g0 hg => ?_
 refine rn tk 11 rfl ?_
 obtain ⟨v1, h2, hr⟩ := bind_some hr
 refine cl (bounce_Due_run _ _ _ _ h2) rfl rfl ?_
 refine rn tk 9 rfl ?_
 refine jb hr (fun j3 => [(1, .l cI a1), (3, .ptr 3 0), (7, .l TMail.pc v1.1), (8, .ptr 8 0), (48, .bo j3)]) (fun j3 => [(8, .cells [.i v1.2.Code, .i v1.2.Index]), (3, .cells [.s a0.Envelope.From, .l TRecipient.pc a0.Envelope.To, .s a0.Envelope.Id, .l TField.pc a0.Message.Fields, .l cU a0.Message.Body])]) (fun j3 hr => ?_) (fun j3 hr => ?_)
 ·
  refine rn tk 1 rfl ?_
  obtain ⟨v4, h5, hr⟩ := bind_some hr
  refine cl (L_dues_run _ h5) rfl rfl ?_
  refine rn tk 2 rfl ?_
  refine bs 29 hr rfl (fun c6 hr => ?_) (fun c6 hr => ?_)
  ·
   refine rn tk 20 rfl ?_
   cases hr
   exact jn _ rfl rfl rfl
  ·
   refine rn tk 5 rfl ?_
   refine bs 34 hr rfl (fun c7 hr => ?_) (fun c7 hr => ?_)
   ·
    refine rn tk 15 rfl ?_
    cases hr
    exact jn _ rfl rfl rfl
   ·
    refine rn tk 6 rfl ?_
    refine bs 40 hr rfl (fun c8 hr => ?_) (fun c8 hr => ?_)
    ·
     refine rn tk 9 rfl ?_
     cases hr
     exact jn _ rfl rfl rfl
    ·
     refine rn tk 1 rfl ?_
     refine ug rfl rfl rfl ?_
     refine wn tk rfl rfl rfl ?_
     refine rn tk 3 rfl ?_
     refine ug rfl rfl rfl ?_
     refine wn tk rfl rfl rfl ?_
     refine rn tk 3 rfl ?_
     cases hr
     exact jn _ rfl rfl rfl
 ·
  refine ac 48 hr rfl (fun c9 hr => ?_) (fun c9 hr => ?_)
  ·
   refine jb hr (fun j10 => [(6, .bo j10)]) (fun j10 => []) (fun j10 hr => ?_) (fun j10 hr => ?_)
   ·
    refine rn tk 1 rfl ?_
    obtain ⟨v11, h12, hr⟩ := bind_some hr
    refine cl (L_dues_run _ h12) rfl rfl ?_
    refine rn tk 1 rfl ?_
    refine bs 50 hr rfl (fun c13 hr => ?_) (fun c13 hr => ?_)
    ·
     refine rn tk 4 rfl ?_
     refine bs 54 hr rfl (fun c14 hr => ?_) (fun c14 hr => ?_)
     ·
      refine rn tk 7 rfl ?_
      cases hr
      exact jn _ rfl rfl rfl
     ·
      refine rn tk 1 rfl ?_
      refine ug rfl rfl rfl ?_
      refine wn tk rfl rfl rfl ?_
      refine rn tk 5 rfl ?_
      cases hr
      exact jn _ rfl rfl rfl
    ·
     refine rn tk 11 rfl ?_
     cases hr
     exact jn _ rfl rfl rfl
   ·
    refine rn tk 2 rfl ?_
    cases hr
    exact kr tk (.inr rfl) rfl rfl
  ·
   refine rn tk 6 rfl ?_
   obtain ⟨v15, h16, hr⟩ := bind_some hr
   refine cl (notice_Read_run _ _ h16) rfl rfl ?_
   refine rn tk 18 rfl ?_
   refine al2 hr (fun s17 => [(1, .l cI a1), (3, .ptr 3 0), (7, .l TMail.pc v1.1), (10, .bo v15.2.1), (12, .i s17)]) (fun s17 => [(3, .cells [.s a0.Envelope.From, .l TRecipient.pc a0.Envelope.To, .s a0.Envelope.Id, .l TField.pc a0.Message.Fields, .l cU a0.Message.Body])]) (.exit 0) (fun b18 => []) (fun b18 => []) .ret (fun b19 => [(6, .bo b19)]) (fun b19 => []) rfl rfl (fun s17 x21 hr => ?_) (fun b18 hr => ?_) (fun b19 hr => ?_)
   ·
    unfold L_BounceTellsEachOnce_l1 at hr
    refine rn tk 5 rfl ?_
    refine wn tk rfl rfl rfl ?_
    refine rn tk 3 rfl ?_
    refine ac 70 hr rfl (fun c22 hr => ?_) (fun c22 hr => ?_)
    ·
     refine rn tk 16 rfl ?_
     refine al2 hr (fun s23 => [(1, .l cI a1), (3, .ptr 3 0), (7, .l TMail.pc v1.1), (10, .bo v15.2.1), (12, .i s17), (13, .i s23.1), (14, .i s23.2)]) (fun s23 => [(3, .cells [.s a0.Envelope.From, .l TRecipient.pc a0.Envelope.To, .s a0.Envelope.Id, .l TField.pc a0.Message.Fields, .l cU a0.Message.Body])]) (.exit 2) (fun b24 => [(1, .l cI a1), (3, .ptr 3 0), (7, .l TMail.pc v1.1), (10, .bo v15.2.1), (12, .i s17), (13, .i b24)]) (fun b24 => [(3, .cells [.s a0.Envelope.From, .l TRecipient.pc a0.Envelope.To, .s a0.Envelope.Id, .l TField.pc a0.Message.Fields, .l cU a0.Message.Body])]) .ret (fun b25 => [(6, .bo b25)]) (fun b25 => []) rfl rfl (fun s23 x27 hr => ?_) (fun b24 hr => ?_) (fun b25 hr => ?_)
     ·
      unfold L_BounceTellsEachOnce_l2 at hr
      refine rn tk 5 rfl ?_
      refine wn tk rfl rfl rfl ?_
      refine rn tk 3 rfl ?_
      refine ac 76 hr rfl (fun c28 hr => ?_) (fun c28 hr => ?_)
      ·
       refine rn tk 8 rfl ?_
       obtain ⟨v29, h30, hr⟩ := bind_some hr
       refine wi tk h30 rfl rfl rfl rfl rfl ?_
       refine rn tk 2 rfl ?_
       obtain ⟨v31, h32, hr⟩ := bind_some hr
       refine cl (notice_Read_run _ _ h32) rfl rfl ?_
       refine rn tk 12 rfl ?_
       refine jb hr (fun j33 => [(1, .l cI a1), (3, .ptr 3 0), (7, .l TMail.pc v1.1), (10, .bo v15.2.1), (12, .i s17), (13, .i s23.1), (14, .i s23.2), (15, .ptr 15 0), (95, .bo j33)]) (fun j33 => [(15, .cells [.i v31.1.Kind, .s v31.1.Id, .l TTold.pc v31.1.Told]), (3, .cells [.s a0.Envelope.From, .l TRecipient.pc a0.Envelope.To, .s a0.Envelope.Id, .l TField.pc a0.Message.Fields, .l cU a0.Message.Body])]) (fun j33 hr => ?_) (fun j33 hr => ?_)
       ·
        refine rn tk 5 rfl ?_
        refine bs 92 hr rfl (fun c34 hr => ?_) (fun c34 hr => ?_)
        ·
         refine rn tk 4 rfl ?_
         cases hr
         exact jn _ rfl rfl rfl
        ·
         refine rn tk 4 rfl ?_
         cases hr
         exact jn _ rfl rfl rfl
       ·
        refine ac 95 hr rfl (fun c35 hr => ?_) (fun c35 hr => ?_)
        ·
         refine rn tk 9 rfl ?_
         cases hr
         exact ato rfl rfl rfl rfl
        ·
         refine rn tk 8 rfl ?_
         refine al1 hr (fun s36 => [(1, .l cI a1), (3, .ptr 3 0), (7, .l TMail.pc v1.1), (10, .bo v15.2.1), (12, .i s17), (13, .i s36.1), (14, .i s23.2), (15, .ptr 15 0), (18, .i s36.2)]) (fun s36 => [(15, .cells [.i v31.1.Kind, .s v31.1.Id, .l TTold.pc v31.1.Told]), (3, .cells [.s a0.Envelope.From, .l TRecipient.pc a0.Envelope.To, .s a0.Envelope.Id, .l TField.pc a0.Message.Fields, .l cU a0.Message.Body])]) (.exit 4) (fun b37 => [(1, .l cI a1), (3, .ptr 3 0), (7, .l TMail.pc v1.1), (10, .bo v15.2.1), (12, .i s17), (13, .i b37), (14, .i s23.2)]) (fun b37 => [(3, .cells [.s a0.Envelope.From, .l TRecipient.pc a0.Envelope.To, .s a0.Envelope.Id, .l TField.pc a0.Message.Fields, .l cU a0.Message.Body])]) rfl rfl (fun s36 x38 hr => ?_) (fun b37 hr => ?_)
         ·
          unfold L_BounceTellsEachOnce_l3 at hr
          refine rn tk 6 rfl ?_
          refine wn tk rfl rfl rfl ?_
          refine rn tk 3 rfl ?_
          refine ac 100 hr rfl (fun c39 hr => ?_) (fun c39 hr => ?_)
          ·
           refine rn tk 2 rfl ?_
           refine jb hr (fun j40 => [(1, .l cI a1), (3, .ptr 3 0), (7, .l TMail.pc v1.1), (10, .bo v15.2.1), (12, .i s17), (13, .i j40), (14, .i s23.2), (15, .ptr 15 0), (18, .i s36.2)]) (fun j40 => [(15, .cells [.i v31.1.Kind, .s v31.1.Id, .l TTold.pc v31.1.Told]), (3, .cells [.s a0.Envelope.From, .l TRecipient.pc a0.Envelope.To, .s a0.Envelope.Id, .l TField.pc a0.Message.Fields, .l cU a0.Message.Body])]) (fun j40 hr => ?_) (fun j40 hr => ?_)
           ·
            refine rn tk 2 rfl ?_
            obtain ⟨v41, h42, hr⟩ := bind_some hr
            obtain ⟨v43, h44, hr⟩ := bind_some hr
            refine dr 13 [(115, .s v43.Address), (114, .ep [pS v43.Address, pI v43.Notify]), (113, .ep [pS v43.Address, pI v43.Notify]), (112, .i s17), (111, .l TRecipient.pc a0.Envelope.To), (110, .ptr 3 1), (109, .ptr 3 0), (108, .s v41.Address), (107, .ep [pS v41.Address, pI v41.Result]), (106, .ep [pS v41.Address, pI v41.Result]), (105, .i s36.2), (104, .l TTold.pc v31.1.Told), (103, .ptr 15 2)] mixed (by kernel_rfl) rfl rfl (pq tk rfl (.plain rfl) (pq tk rfl (.plain rfl) (pq tk rfl (.plain rfl) (.run (.plain rfl) (opG_q (ev_idx (f := TTold.pc) rfl rfl ty_s_api_Told ty_api_Told rfl h42)) (pq tk rfl (.plain rfl) (pq tk rfl (.plain rfl) (pq tk rfl (.plain rfl) (pq tk rfl (.plain rfl) (pq tk rfl (.plain rfl) (pq tk rfl (.plain rfl) (.run (.plain rfl) (opG_q (ev_idx (f := TRecipient.pc) rfl rfl ty_s_api_Recipient ty_api_Recipient rfl h44)) (pq tk rfl (.plain rfl) (pq tk rfl (.plain rfl) .nil))))))))))))) rfl ?_
            refine rn tk 3 rfl ?_
            refine ac 116 hr rfl (fun c45 hr => ?_) (fun c45 hr => ?_)
            ·
             refine rn tk 6 rfl ?_
             cases hr
             exact jn _ rfl rfl rfl
            ·
             refine rn tk 2 rfl ?_
             cases hr
             exact jn _ rfl rfl rfl
           ·
            refine rn tk 5 rfl ?_
            cases hr
            exact atc rfl rfl
          ·
           refine rn tk 2 rfl ?_
           cases hr
           exact ato rfl rfl rfl rfl
         ·
          refine rn tk 8 rfl ?_
          cases hr
          exact atc rfl rfl
      ·
       refine rn tk 2 rfl ?_
       cases hr
       exact ato rfl rfl rfl rfl
     ·
      refine rn tk 2 rfl ?_
      refine jb hr (fun j46 => [(1, .l cI a1), (3, .ptr 3 0), (7, .l TMail.pc v1.1), (10, .bo v15.2.1), (12, .i s17), (13, .i b24), (19, .bo j46)]) (fun j46 => [(3, .cells [.s a0.Envelope.From, .l TRecipient.pc a0.Envelope.To, .s a0.Envelope.Id, .l TField.pc a0.Message.Fields, .l cU a0.Message.Body])]) (fun j46 hr => ?_) (fun j46 hr => ?_)
      ·
       refine rn tk 3 rfl ?_
       obtain ⟨v47, h48, hr⟩ := bind_some hr
       refine wi tk h48 rfl rfl rfl rfl rfl ?_
       refine rn tk 3 rfl ?_
       refine bs 124 hr rfl (fun c49 hr => ?_) (fun c49 hr => ?_)
       ·
        refine rn tk 4 rfl ?_
        obtain ⟨v50, h51, hr⟩ := bind_some hr
        refine ug rfl rfl rfl ?_
        refine wi tk h51 rfl rfl rfl rfl rfl ?_
        refine rn tk 5 rfl ?_
        refine bs 134 hr rfl (fun c52 hr => ?_) (fun c52 hr => ?_)
        ·
         refine rn tk 38 rfl ?_
         cases hr
         exact jn _ rfl rfl rfl
        ·
         refine rn tk 2 rfl ?_
         obtain ⟨v53, h54, hr⟩ := bind_some hr
         refine ug rfl rfl rfl ?_
         refine wi tk h54 rfl rfl rfl rfl rfl ?_
         refine rn tk 3 rfl ?_
         refine bs 140 hr rfl (fun c55 hr => ?_) (fun c55 hr => ?_)
         ·
          refine rn tk 4 rfl ?_
          obtain ⟨v56, h57, hr⟩ := bind_some hr
          refine ug rfl rfl rfl ?_
          refine wi tk h57 rfl rfl rfl rfl rfl ?_
          refine rn tk 2 rfl ?_
          refine ug rfl rfl rfl ?_
          refine wq (ev_iquo rfl rfl rfl) rfl rfl rfl ?_
          refine ug rfl rfl rfl ?_
          refine wq (ev_irem rfl rfl rfl) rfl rfl rfl ?_
          refine rn tk 4 rfl ?_
          refine bs 153 hr rfl (fun c58 hr => ?_) (fun c58 hr => ?_)
          ·
           refine rn tk 19 rfl ?_
           cases hr
           exact jn _ rfl rfl rfl
          ·
           refine rn tk 2 rfl ?_
           obtain ⟨v59, h60, hr⟩ := bind_some hr
           refine ug rfl rfl rfl ?_
           refine wi tk h60 rfl rfl rfl rfl rfl ?_
           refine rn tk 3 rfl ?_
           refine bs 159 hr rfl (fun c61 hr => ?_) (fun c61 hr => ?_)
           ·
            refine rn tk 4 rfl ?_
            obtain ⟨v62, h63, hr⟩ := bind_some hr
            refine ug rfl rfl rfl ?_
            refine wi tk h63 rfl rfl rfl rfl rfl ?_
            refine rn tk 2 rfl ?_
            refine ug rfl rfl rfl ?_
            refine wq (ev_irem rfl rfl rfl) rfl rfl rfl ?_
            refine rn tk 5 rfl ?_
            cases hr
            exact jn _ rfl rfl rfl
           ·
            refine rn tk 13 rfl ?_
            cases hr
            exact jn _ rfl rfl rfl
         ·
          refine rn tk 15 rfl ?_
          obtain ⟨v64, h65, hr⟩ := bind_some hr
          refine ug rfl rfl rfl ?_
          refine wi tk h65 rfl rfl rfl rfl rfl ?_
          refine rn tk 3 rfl ?_
          refine bs 159 hr rfl (fun c66 hr => ?_) (fun c66 hr => ?_)
          ·
           refine rn tk 4 rfl ?_
           obtain ⟨v67, h68, hr⟩ := bind_some hr
           refine ug rfl rfl rfl ?_
           refine wi tk h68 rfl rfl rfl rfl rfl ?_
           refine rn tk 2 rfl ?_
           refine ug rfl rfl rfl ?_
           refine wq (ev_irem rfl rfl rfl) rfl rfl rfl ?_
           refine rn tk 5 rfl ?_
           cases hr
           exact jn _ rfl rfl rfl
          ·
           refine rn tk 13 rfl ?_
           cases hr
           exact jn _ rfl rfl rfl
       ·
        refine rn tk 12 rfl ?_
        obtain ⟨v69, h70, hr⟩ := bind_some hr
        refine ug rfl rfl rfl ?_
        refine wi tk h70 rfl rfl rfl rfl rfl ?_
        refine rn tk 3 rfl ?_
        refine bs 140 hr rfl (fun c71 hr => ?_) (fun c71 hr => ?_)
        ·
         refine rn tk 4 rfl ?_
         obtain ⟨v72, h73, hr⟩ := bind_some hr
         refine ug rfl rfl rfl ?_
         refine wi tk h73 rfl rfl rfl rfl rfl ?_
         refine rn tk 2 rfl ?_
         refine ug rfl rfl rfl ?_
         refine wq (ev_iquo rfl rfl rfl) rfl rfl rfl ?_
         refine ug rfl rfl rfl ?_
         refine wq (ev_irem rfl rfl rfl) rfl rfl rfl ?_
         refine rn tk 4 rfl ?_
         refine bs 153 hr rfl (fun c74 hr => ?_) (fun c74 hr => ?_)
         ·
          refine rn tk 19 rfl ?_
          cases hr
          exact jn _ rfl rfl rfl
         ·
          refine rn tk 2 rfl ?_
          obtain ⟨v75, h76, hr⟩ := bind_some hr
          refine ug rfl rfl rfl ?_
          refine wi tk h76 rfl rfl rfl rfl rfl ?_
          refine rn tk 3 rfl ?_
          refine bs 159 hr rfl (fun c77 hr => ?_) (fun c77 hr => ?_)
          ·
           refine rn tk 4 rfl ?_
           obtain ⟨v78, h79, hr⟩ := bind_some hr
           refine ug rfl rfl rfl ?_
           refine wi tk h79 rfl rfl rfl rfl rfl ?_
           refine rn tk 2 rfl ?_
           refine ug rfl rfl rfl ?_
           refine wq (ev_irem rfl rfl rfl) rfl rfl rfl ?_
           refine rn tk 5 rfl ?_
           cases hr
           exact jn _ rfl rfl rfl
          ·
           refine rn tk 13 rfl ?_
           cases hr
           exact jn _ rfl rfl rfl
        ·
         refine rn tk 15 rfl ?_
         obtain ⟨v80, h81, hr⟩ := bind_some hr
         refine ug rfl rfl rfl ?_
         refine wi tk h81 rfl rfl rfl rfl rfl ?_
         refine rn tk 3 rfl ?_
         refine bs 159 hr rfl (fun c82 hr => ?_) (fun c82 hr => ?_)
         ·
          refine rn tk 4 rfl ?_
          obtain ⟨v83, h84, hr⟩ := bind_some hr
          refine ug rfl rfl rfl ?_
          refine wi tk h84 rfl rfl rfl rfl rfl ?_
          refine rn tk 2 rfl ?_
          refine ug rfl rfl rfl ?_
          refine wq (ev_irem rfl rfl rfl) rfl rfl rfl ?_
          refine rn tk 5 rfl ?_
          cases hr
          exact jn _ rfl rfl rfl
         ·
          refine rn tk 13 rfl ?_
          cases hr
          exact jn _ rfl rfl rfl
      ·
       refine jb hr (fun j85 => [(1, .l cI a1), (3, .ptr 3 0), (7, .l TMail.pc v1.1), (10, .bo v15.2.1), (12, .i s17), (182, .bo j85)]) (fun j85 => [(3, .cells [.s a0.Envelope.From, .l TRecipient.pc a0.Envelope.To, .s a0.Envelope.Id, .l TField.pc a0.Message.Fields, .l cU a0.Message.Body])]) (fun j85 hr => ?_) (fun j85 hr => ?_)
       ·
        refine rn tk 5 rfl ?_
        refine bs 174 hr rfl (fun c86 hr => ?_) (fun c86 hr => ?_)
        ·
         refine rn tk 5 rfl ?_
         refine bs 179 hr rfl (fun c87 hr => ?_) (fun c87 hr => ?_)
         ·
          refine rn tk 4 rfl ?_
          cases hr
          exact jn _ rfl rfl rfl
         ·
          refine rn tk 4 rfl ?_
          cases hr
          exact jn _ rfl rfl rfl
        ·
         refine rn tk 5 rfl ?_
         refine bs 179 hr rfl (fun c88 hr => ?_) (fun c88 hr => ?_)
         ·
          refine rn tk 4 rfl ?_
          cases hr
          exact jn _ rfl rfl rfl
         ·
          refine rn tk 4 rfl ?_
          cases hr
          exact jn _ rfl rfl rfl
       ·
        refine ac 182 hr rfl (fun c89 hr => ?_) (fun c89 hr => ?_)
        ·
         refine rn tk 8 rfl ?_
         cases hr
         exact ato rfl rfl rfl rfl
        ·
         refine rn tk 8 rfl ?_
         cases hr
         exact atc rfl rfl
     ·
      refine rn tk 4 rfl ?_
      cases hr
      exact ato rfl rfl rfl rfl
    ·
     refine rn tk 2 rfl ?_
     cases hr
     exact ato rfl rfl rfl rfl
   ·
    refine rn tk 8 rfl ?_
    cases hr
    exact kr tk (.inr rfl) rfl rfl
   ·
    refine rn tk 2 rfl ?_
    cases hr
    exact kr tk (.inr rfl) rfl rfl
end Go.Proofs.YtfkgmcilaiblfaaGreatDoor

namespace Go.Proofs.YtfkgmcilaiblfaaGreatDoor.bounceTellsEachOnce
open Go.ChangeShapes Go.WideShapes Go.ChangeAt Go.RowKit
set_option linter.unusedVariables false
set_option maxRecDepth 100000

theorem contract (H : Type) (enc : TypeId × Value → H) (W : World) (base : Nat) (args : Array Value) (ds gs : List (DataW H)) (before : List MemPlace)
    (hval : ∀ (j : Nat) t v, Tryz.f5.params[j]? = some t → args[j]? = some v → Value.okWide Tryz.prog W .any base t v)
    (hW : DataW.Whole enc Tryz.prog Tryz.f5.params.toList Rows.bounceTellsEachOnceSpec.vars false W args.toList ds gs before) (hk : Rows.uptoSmall H (ds ++ gs) = true) (hgl : Gl (gAll W)) :
    Calls Tryz.prog 5 args W fun e W' => ∃ v, e = .returned v ∧ Rows.bounceTellsEachOnceSpec.post enc Tryz.prog Tryz.f5 false true false false W args v W' := by
  have hW' := hW
  obtain ⟨p, q, hA0, hV, rfl, hfz, hnd⟩ := hW
  have hA : DataW.TrodAll enc Tryz.prog W 0 (fun _ => true) true Tryz.f5.params.toList args.toList ds p := hA0
  rw [Tryz.params5] at hA hval
  obtain ⟨v0, vs0, d0, ds0, p0, q0, hargs, rfl, rfl, h0, r0⟩ := trodAll_cons hA
  obtain ⟨v1, vs1, d1, ds1, p1, q1, rfl, rfl, rfl, h1, r1⟩ := trodAll_cons r0
  obtain ⟨v2, vs2, d2, ds2, p2, q2, rfl, rfl, rfl, h2, r2⟩ := trodAll_cons r1
  obtain ⟨rfl, rfl, rfl⟩ := trodAll_nil r2
  obtain rfl : args = #[v0, v1, v2] := by cases args; simp_all
  obtain ⟨rfl, rfl⟩ := trodVars_none hV
  obtain ⟨a0, e0, o0, k0⟩ := arg_agg op_api_Mail (by obtain ⟨cs, h, _⟩ := okWide_struct ty_api_Mail.u (hval 0 _ v0 rfl rfl); exact ⟨cs, h⟩) h0
  obtain ⟨a1, e1, o1, k1⟩ := arg_one op_s_int (by obtain ⟨_, _, _, h⟩ := okWide_slice ty_s_int.u (hval 1 _ v1 rfl rfl); rw [h]; rfl) h1
  obtain ⟨a2, e2, o2, k2⟩ := arg_one op_int (by obtain ⟨_, h⟩ := okWide_int ty_int.u (hval 2 _ v2 rfl rfl); rw [h]; rfl) h2
  have hk2 := of_decide_eq_true hk
  simp only [List.append_nil, Rows.uptoBulkAll] at hk2
  have ht := L_BounceTellsEachOnce_true a0 a1 a2 o0 o1 o2 (by (try dsimp only); omega)
  have key : Calls Tryz.prog 5 #[v0, v1, v2] W fun e W' => e = .returned (.bool true) ∧ Below W.heap.size W W' := calls_of_run (L_BounceTellsEachOnce_run a0 a1 a2 true ht) hgl (relArgs_of (.cons e0 (.cons (e1 _ rfl) (.cons (e2 _ rfl) .nil))))
  refine key.mono fun e W' ⟨he, hb⟩ => ⟨_, he, ?_⟩
  exact post_true laidOut (by kernel_rfl) Tryz.underlying4 (by kernel_rfl) rfl rfl hW' hb

/-- a world for the witness -/
noncomputable def wit (os : Os) : World := World.doorLaid Tryz.prog 34 os
theorem reads (os : Os) {H : Type} (enc : TypeId × Value → H) : ∃ places, DataW.whole enc Tryz.prog ((wit os).forCall (fun _ _ => 0) ⟨#[], #[.agg #[.string ⟨#[]⟩, .slice none 0 0, .string ⟨#[]⟩, .slice none 0 0, .slice none 0 0], .slice none 0 0, .int .i64 0], []⟩).memory Tryz.f5.params.toList (Rows.OpenSpec.upto Rows.bounceTellsEachOnceSpec).vars false (#[.agg #[.string ⟨#[]⟩, .slice none 0 0, .string ⟨#[]⟩, .slice none 0 0, .slice none 0 0], .slice none 0 0, .int .i64 0] : Array Value).toList 8 = some ([.agg [.agg [.lit (.string []), .nil, .lit (.string [])], .agg [.nil, .nil]], .nil, .lit (.int .i64 0)], [], places) :=
  ⟨[], by kernel_rfl⟩
theorem lifted (os : Os) (started : os.Started) (H : Type) (enc : TypeId × Value → H) (F : Stop.Interp) :
    ReturnsInHanded {} Tryz.checked os 5 .any ((Rows.OpenSpec.upto Rows.bounceTellsEachOnceSpec).preRow enc Tryz.prog Tryz.f5 Rows.bounceTellsEachOnceUptoRow.domain false Rows.bounceTellsEachOnceUptoRow.laid) (((Rows.OpenSpec.upto Rows.bounceTellsEachOnceSpec).at F).post enc Tryz.prog Tryz.f5 false true false false) := by
  obtain ⟨places, hx⟩ := reads os enc
  refine returnsInHanded_of_row (C := Tryz.checked) (s := Rows.OpenSpec.upto Rows.bounceTellsEachOnceSpec) own started (by kernel_rfl) Tryz.func5
    (witness_row_atRef (enc := enc) (C := Tryz.checked) false (wit os) #[.agg #[.string ⟨#[]⟩, .slice none 0 0, .string ⟨#[]⟩, .slice none 0 0, .slice none 0 0], .slice none 0 0, .int .i64 0] rfl (by kernel_rfl) (by kernel_rfl) (by kernel_rfl)
      (OpenSpec.preRow_of_cond 8 hx (by kernel_rfl) (fun k hk => by cases hk; kernel_rfl) (by kernel_rfl) (laidMet_of_run' 8 (by kernel_rfl) (by kernel_rfl)))) ?_
  intro W base args ds gs before hval hW _ hk _ hL hsh _
  exact contract H enc W base args ds gs before hval hW (hk _ rfl) (gl_of_laid (rest := Rows.bounceTellsEachOnceUptoRow.laid.drop 3) hsh (by kernel_rfl) hL (fun _ k hk => by simp [globI] at hk))

theorem j0 : jf0 Tryz.pinned.checked.prog 5 Tryz.f5 (Rows.OpenSpec.upto Rows.bounceTellsEachOnceSpec).bare Rows.bounceTellsEachOnceUptoRow = true := by kernel_rfl
theorem j1 : jf1 Tryz.pinned.checked.prog 5 Tryz.f5 (Rows.OpenSpec.upto Rows.bounceTellsEachOnceSpec).bare Rows.bounceTellsEachOnceUptoRow = true := by kernel_rfl
theorem j2 : jf2 Tryz.pinned.checked.prog 5 Tryz.f5 (Rows.OpenSpec.upto Rows.bounceTellsEachOnceSpec).bare Rows.bounceTellsEachOnceUptoRow = true := by kernel_rfl
theorem j3 : jf3 Tryz.pinned.checked.prog 5 Tryz.f5 (Rows.OpenSpec.upto Rows.bounceTellsEachOnceSpec).bare Rows.bounceTellsEachOnceUptoRow = true := by kernel_rfl
theorem j4 : jf4 Tryz.pinned.checked.prog 5 Tryz.f5 (Rows.OpenSpec.upto Rows.bounceTellsEachOnceSpec).bare Rows.bounceTellsEachOnceUptoRow = true := by kernel_rfl
theorem j5 : jf5 Tryz.pinned.checked.prog 5 Tryz.f5 (Rows.OpenSpec.upto Rows.bounceTellsEachOnceSpec).bare Rows.bounceTellsEachOnceUptoRow = true := by kernel_rfl
theorem j6 : jf6 Tryz.pinned.checked.prog 5 Tryz.f5 (Rows.OpenSpec.upto Rows.bounceTellsEachOnceSpec).bare Rows.bounceTellsEachOnceUptoRow = true := by kernel_rfl
theorem j7 : jf7 Tryz.pinned.checked.prog 5 Tryz.f5 (Rows.OpenSpec.upto Rows.bounceTellsEachOnceSpec).bare Rows.bounceTellsEachOnceUptoRow = true := by kernel_rfl
theorem j8 : jf8 Tryz.pinned.checked.prog 5 Tryz.f5 (Rows.OpenSpec.upto Rows.bounceTellsEachOnceSpec).bare Rows.bounceTellsEachOnceUptoRow = true := by kernel_rfl
theorem j9 : jf9 Tryz.pinned.checked.prog 5 Tryz.f5 (Rows.OpenSpec.upto Rows.bounceTellsEachOnceSpec).bare Rows.bounceTellsEachOnceUptoRow = true := by kernel_rfl
theorem j10 : jf10 Tryz.pinned.checked.prog 5 Tryz.f5 (Rows.OpenSpec.upto Rows.bounceTellsEachOnceSpec).bare Rows.bounceTellsEachOnceUptoRow = true := by kernel_rfl
theorem j11 : jf11 Tryz.pinned.checked.prog 5 Tryz.f5 (Rows.OpenSpec.upto Rows.bounceTellsEachOnceSpec).bare Rows.bounceTellsEachOnceUptoRow = true := by kernel_rfl
theorem j12 : jf12 Tryz.pinned.checked.prog 5 Tryz.f5 (Rows.OpenSpec.upto Rows.bounceTellsEachOnceSpec).bare Rows.bounceTellsEachOnceUptoRow = true := by kernel_rfl
theorem j13 : jf13 Tryz.pinned.checked.prog 5 Tryz.f5 (Rows.OpenSpec.upto Rows.bounceTellsEachOnceSpec).bare Rows.bounceTellsEachOnceUptoRow = true := by kernel_rfl
theorem j14 : jf14 Tryz.pinned.checked.prog 5 Tryz.f5 (Rows.OpenSpec.upto Rows.bounceTellsEachOnceSpec).bare Rows.bounceTellsEachOnceUptoRow = true := by kernel_rfl
theorem j15 : jf15 Tryz.pinned.checked.prog 5 Tryz.f5 (Rows.OpenSpec.upto Rows.bounceTellsEachOnceSpec).bare Rows.bounceTellsEachOnceUptoRow = true := by kernel_rfl
theorem j16 : jf16 Tryz.pinned.checked.prog 5 Tryz.f5 (Rows.OpenSpec.upto Rows.bounceTellsEachOnceSpec).bare Rows.bounceTellsEachOnceUptoRow = true := by kernel_rfl
theorem j17 : jf17 Tryz.pinned.checked.prog 5 Tryz.f5 (Rows.OpenSpec.upto Rows.bounceTellsEachOnceSpec).bare Rows.bounceTellsEachOnceUptoRow = true := by kernel_rfl
theorem j18 : jf18 Tryz.pinned.checked.prog 5 Tryz.f5 (Rows.OpenSpec.upto Rows.bounceTellsEachOnceSpec).bare Rows.bounceTellsEachOnceUptoRow = true := by kernel_rfl
theorem j19 : jf19 Tryz.pinned.checked.prog 5 Tryz.f5 (Rows.OpenSpec.upto Rows.bounceTellsEachOnceSpec).bare Rows.bounceTellsEachOnceUptoRow = true := by kernel_rfl
theorem j20 : jf20 Tryz.pinned.checked.prog 5 Tryz.f5 (Rows.OpenSpec.upto Rows.bounceTellsEachOnceSpec).bare Rows.bounceTellsEachOnceUptoRow = true := by kernel_rfl
theorem j21 : jf21 Tryz.pinned.checked.prog 5 Tryz.f5 (Rows.OpenSpec.upto Rows.bounceTellsEachOnceSpec).bare Rows.bounceTellsEachOnceUptoRow = true := by kernel_rfl
theorem j22 : jf22 Tryz.pinned.checked.prog 5 Tryz.f5 (Rows.OpenSpec.upto Rows.bounceTellsEachOnceSpec).bare Rows.bounceTellsEachOnceUptoRow = true := by kernel_rfl
theorem j23 : jf23 Tryz.pinned.checked.prog 5 Tryz.f5 (Rows.OpenSpec.upto Rows.bounceTellsEachOnceSpec).bare Rows.bounceTellsEachOnceUptoRow = true := by kernel_rfl
theorem j24 : jf24 Tryz.pinned.checked.prog 5 Tryz.f5 (Rows.OpenSpec.upto Rows.bounceTellsEachOnceSpec).bare Rows.bounceTellsEachOnceUptoRow = true := by kernel_rfl
theorem j25 : jf25 Tryz.pinned.checked.prog 5 Tryz.f5 (Rows.OpenSpec.upto Rows.bounceTellsEachOnceSpec).bare Rows.bounceTellsEachOnceUptoRow = true := by kernel_rfl
theorem j26 : jf26 Tryz.pinned.checked.prog 5 Tryz.f5 (Rows.OpenSpec.upto Rows.bounceTellsEachOnceSpec).bare Rows.bounceTellsEachOnceUptoRow = true := by kernel_rfl
theorem j27 : jf27 Tryz.pinned.checked.prog 5 Tryz.f5 (Rows.OpenSpec.upto Rows.bounceTellsEachOnceSpec).bare Rows.bounceTellsEachOnceUptoRow = true := by kernel_rfl
theorem j28 : jf28 Tryz.pinned.checked.prog 5 Tryz.f5 (Rows.OpenSpec.upto Rows.bounceTellsEachOnceSpec).bare Rows.bounceTellsEachOnceUptoRow = true := by kernel_rfl
theorem j29 : jf29 Tryz.pinned.checked.prog 5 Tryz.f5 (Rows.OpenSpec.upto Rows.bounceTellsEachOnceSpec).bare Rows.bounceTellsEachOnceUptoRow = true := by kernel_rfl
theorem j30 : jf30 Tryz.pinned.checked.prog 5 Tryz.f5 (Rows.OpenSpec.upto Rows.bounceTellsEachOnceSpec).bare Rows.bounceTellsEachOnceUptoRow = true := by kernel_rfl
theorem j31 : jf31 Tryz.pinned.checked.prog 5 Tryz.f5 (Rows.OpenSpec.upto Rows.bounceTellsEachOnceSpec).bare Rows.bounceTellsEachOnceUptoRow = true := by kernel_rfl
theorem said : Rows.bounceTellsEachOnceUptoRow.holds Tryz.pinned (Rows.OpenSpec.upto Rows.bounceTellsEachOnceSpec) :=
  OpenClaim.holds_of_cond 5 Tryz.f5 rfl rfl rfl rfl rfl rfl rfl ⟨rfl, rfl, rfl, rfl, rfl⟩ rfl rfl rfl rfl rfl (by kernel_rfl) Tryz.func5 (joined_of j0 j1 j2 j3 j4 j5 j6 j7 j8 j9 j10 j11 j12 j13 j14 j15 j16 j17 j18 j19 j20 j21 j22 j23 j24 j25 j26 j27 j28 j29 j30 j31)
    (of_decide_eq_true (by kernel_rfl)) (by unfold Func.isWrapper; first | (rw [if_pos (by decide +kernel)]; kernel_rfl) | (rw [if_neg (by decide +kernel)]; exact ⟨rfl, rfl⟩))
    (fun os started H enc _ F => by rw [OpenClaim.pre_eq_preRow]; exact lifted os started H enc F)

theorem plain (f : FuncId) (fn : Func) (hf : Tryz.pinned.checked.prog.funcNamed "posthouse/posthouselaw3.BounceTellsEachOnce" = some f) (hfn : Tryz.pinned.checked.prog.funcs[f]? = some fn) :
    true = Tryz.pinned.checked.prog.looks [] ∧ ∀ (j : Nat) t, fn.params[j]? = some t → Tryz.pinned.checked.prog.wantsStandIn t = false := by
  obtain rfl : f = 5 := Option.some.inj ((show Tryz.prog.funcNamed "posthouse/posthouselaw3.BounceTellsEachOnce" = some 5 by kernel_rfl).symm.trans hf) |>.symm
  obtain rfl : fn = Tryz.f5 := (Option.some.inj (Tryz.func5.symm.trans hfn)).symm
  refine ⟨by kernel_rfl, fun j t ht => ?_⟩
  rw [Tryz.params5] at ht
  have hm := Array.mem_of_getElem? ht
  simp only [List.mem_toArray, List.mem_cons, List.not_mem_nil, or_false] at hm
  rcases hm with rfl | rfl | rfl
  · exact (show Tryz.prog.wantsStandIn 30 = false by kernel_rfl)
  · exact (show Tryz.prog.wantsStandIn 39 = false by kernel_rfl)
  · exact (show Tryz.prog.wantsStandIn 3 = false by kernel_rfl)
theorem proved : Rows.BounceTellsEachOnceUptoCardSaid :=
  Claim7.holds_tied_plain_at .later [] _ _ _ _ said (fun _ h => by cases h) (by kernel_rfl) (fun _ h => by cases h) bounceTellsEachOnceUpto_row_tie rfl ⟨rfl, rfl⟩ (by kernel_rfl) rfl plain (by kernel_rfl)
#print axioms proved
end Go.Proofs.YtfkgmcilaiblfaaGreatDoor.bounceTellsEachOnce
