/- The law CommandRoundTrips holds for every input of bulk up to the given bound: it returns true and leaves its arguments as they were. Written by program. -/
import Derived.Test.YtgbahimpdoahbaaDoorKCommandRoundTrips1
import Derived.Test.YtgbahimpdoahbaaDoorShelf
set_option linter.unusedVariables false
set_option linter.unusedSimpArgs false
namespace Go.Proofs.YtgbahimpdoahbaaDoor
open Go.RowKit
set_option maxRecDepth 100000
set_option maxHeartbeats 40000000
set_option linter.unusedVariables false
theorem basic_Number_run (a0 : Str) (a1 : Int) (r : Int × Bool) (hr : basic_Number a0 a1 = some r) : Run Tryd.prog 41 [.s a0, .i a1] (.tup [.i r.1, .bo r.2]) := by
 unfold basic_Number at hr
 refine rf (fn := Tryd.f41) ⟨Tryd.func41, rfl, by kernel_rfl⟩ rfl (fun _ => rfl) fun g0 hg => ?_
 refine rn tk 9 rfl ?_
 obtain ⟨v1, h2, hr⟩ := bind_some hr
 refine cl (strconv_Atoi_run _ _ h2) rfl rfl ?_
 refine rn tk 8 rfl ?_
 refine jb hr (fun j3 => [(6, .i v1.1), (29, .bo j3)]) (fun j3 => []) (fun j3 hr => ?_) (fun j3 hr => ?_)
 ·
  refine rn tk 2 rfl ?_
  refine wq (ev_ifneq rfl rfl ty_error) rfl rfl rfl ?_
  refine rn tk 1 rfl ?_
  refine bs 15 hr rfl (fun c4 hr => ?_) (fun c4 hr => ?_)
  ·
   refine rn tk 15 rfl ?_
   cases hr
   exact jn _ rfl rfl rfl
  ·
   refine rn tk 1 rfl ?_
   obtain ⟨v5, h6, hr⟩ := bind_some hr
   refine ug rfl rfl rfl ?_
   refine cl (strconv_Itoa_run _ _ h6) rfl rfl ?_
   refine rn tk 4 rfl ?_
   refine bs 21 hr rfl (fun c7 hr => ?_) (fun c7 hr => ?_)
   ·
    refine rn tk 9 rfl ?_
    cases hr
    exact jn _ rfl rfl rfl
   ·
    refine rn tk 4 rfl ?_
    refine bs 25 hr rfl (fun c8 hr => ?_) (fun c8 hr => ?_)
    ·
     refine rn tk 5 rfl ?_
     cases hr
     exact jn _ rfl rfl rfl
    ·
     refine rn tk 5 rfl ?_
     cases hr
     exact jn _ rfl rfl rfl
 ·
  refine ac 29 hr rfl (fun c9 hr => ?_) (fun c9 hr => ?_)
  ·
   refine rn tk 8 rfl ?_
   cases hr
   exact kr tk (.inr rfl) rfl rfl
  ·
   refine rn tk 10 rfl ?_
   cases hr
   exact kr tk (.inr rfl) rfl rfl
theorem command_number_run (a0 : Str) (r : Int × Bool) (hr : command_number a0 = some r) : Run Tryd.prog 29 [.s a0] (.tup [.i r.1, .bo r.2]) := by
 unfold command_number at hr
 refine rf (fn := Tryd.f29) ⟨Tryd.func29, rfl, by kernel_rfl⟩ rfl (fun _ => rfl) fun g0 hg => ?_
 refine rn tk 14 rfl ?_
 refine ac 6 hr rfl (fun c1 hr => ?_) (fun c1 hr => ?_)
 ·
  refine rn tk 8 rfl ?_
  cases hr
  exact kr tk (.inr rfl) rfl rfl
 ·
  refine rn tk 5 rfl ?_
  obtain ⟨v2, h3, hr⟩ := bind_some hr
  refine cl (basic_Number_run _ _ _ h3) rfl rfl ?_
  refine rn tk 7 rfl ?_
  cases hr
  exact kr tk (.inr rfl) rfl rfl
theorem command_option_run (a0 : List Str) (a1 : Str) (r : Str × Bool) (hr : command_option a0 a1 = some r) : Run Tryd.prog 28 [.l cS a0, .s a1] (.tup [.s r.1, .bo r.2]) := by
 unfold command_option at hr
 refine rf (fn := Tryd.f28) ⟨Tryd.func28, rfl, by kernel_rfl⟩ rfl (fun _ => rfl) fun g0 hg => ?_
 refine rn tk 10 rfl ?_
 refine wn tk rfl rfl rfl ?_
 refine rn tk 3 rfl ?_
 refine ac 8 hr rfl (fun c1 hr => ?_) (fun c1 hr => ?_)
 ·
  refine rn tk 8 rfl ?_
  cases hr
  exact kr tk (.inr rfl) rfl rfl
 ·
  refine rn tk 5 rfl ?_
  obtain ⟨v2, h3, hr⟩ := bind_some hr
  refine wi tk h3 rfl rfl rfl rfl rfl ?_
  refine rn tk 1 rfl ?_
  obtain ⟨v4, h5, hr⟩ := bind_some hr
  refine cl (basic_Lower_run _ _ h5) rfl rfl ?_
  refine rn tk 1 rfl ?_
  obtain ⟨v6, h7, hr⟩ := bind_some hr
  refine wc h7 rfl rfl rfl ?_
  obtain ⟨v8, h9, hr⟩ := bind_some hr
  refine cl (strings_CutPrefix_run _ _ _ h9) rfl rfl ?_
  refine rn tk 7 rfl ?_
  cases hr
  exact kr tk (.inr rfl) rfl rfl
theorem command_read_1_run (a0 : Int) (a1 : Int) (c0_0 : List Str) (r : Bool) (hr : command_read_1 a0 a1 c0_0 = some r) : Run Tryd.prog 26 [.i a0, .i a1, .ep [pL cS c0_0]] (.bo r) := by
 unfold command_read_1 at hr
 refine rf (fn := Tryd.f26) ⟨Tryd.func26, rfl, by kernel_rfl⟩ rfl (fun _ => rfl) fun g0 hg => ?_
 refine rn tk 5 rfl ?_
 refine jb hr (fun j1 => [(5, .bo j1)]) (fun j1 => []) (fun j1 hr => ?_) (fun j1 hr => ?_)
 ·
  refine rn tk 2 rfl ?_
  refine wn tk rfl rfl rfl ?_
  refine rn tk 3 rfl ?_
  refine bs 10 hr rfl (fun c2 hr => ?_) (fun c2 hr => ?_)
  ·
   refine rn tk 1 rfl ?_
   refine ug rfl rfl rfl ?_
   refine wn tk rfl rfl rfl ?_
   refine rn tk 5 rfl ?_
   cases hr
   exact jn _ rfl rfl rfl
  ·
   refine rn tk 7 rfl ?_
   cases hr
   exact jn _ rfl rfl rfl
 ·
  refine rn tk 1 rfl ?_
  cases hr
  exact kr tk (.inr rfl) rfl rfl
end Go.Proofs.YtgbahimpdoahbaaDoor

/- Library functions compute what their Lean functions do: texts joined and repeated. -/
namespace Go.Proofs.YtgbahimpdoahbaaDoor
open Go.RowKit
set_option maxRecDepth 100000
theorem old_below {g : G} {w' : World} (h : Below g.w.heap.size g.w w') : Old (fun _ => False) g ⟨w', g.u, g.loc⟩ :=
  ⟨h.os, h.tape, h.output, ⟨h.size, fun _ _ => Nat.le_refl _, fun k i hk _ => by simp only [World.cell?]; rw [h.block k hk], fun r hr => (h.block r (blk_lt hr)).trans hr⟩, fun k hk _ => ⟨h.block k hk, rfl⟩⟩
theorem str_argJ {g : G} {s : Str} {v : Value} (h : Rel g (.s s) v) : v = .string (strB s) := rel_b h
/-- texts, where they lie -/
theorem str_cells {g : G} {l : List Str} {v : Value} (h : Rel g (.l cS l) v) : ∃ ad cap, v = .slice ad l.length cap ∧ l.length ≤ cap ∧ (l ≠ [] → ∃ b off, ad = some ⟨b, off, none⟩ ∧ b < g.w.heap.size ∧ ∀ (i : Nat) s, l[i]? = some s → g.w.cell? ⟨b, off + i, none⟩ = some (.string (strB s))) := by
  cases h with
  | pv h =>
    generalize hE : l.map cS = elems at h
    have hEl : elems.length = l.length := by rw [← hE]; simp
    unfold pL at h
    rw [hE] at h
    cases h with
    | @sl _ _ a cap size b off val hn h0 hc hz ha hu hcell h =>
      refine ⟨a, cap, by rw [hEl], by omega, fun hne => ?_⟩
      have hne' : elems ≠ [] := by rw [← hE]; simpa using hne
      refine ⟨b, off, ha hne', (hu hne').2, fun i s hi => ?_⟩
      have hget : elems[i]? = some (cS s) := by rw [← hE]; simp [hi]
      have hs1 : size = 1 := by
        have := hz _ (List.mem_of_getElem? hget)
        simpa [cS] using this.symm
      subst hs1
      have hlt : i < elems.length := (List.getElem?_eq_some_iff.1 hget).1
      rw [hcell i (by omega)]
      have := h i 0 _ (.b (.string (strB s))) hget rfl
      simp only [Nat.mul_one, Nat.add_zero] at this
      have e := rel_b (g := g) (.pv this)
      rw [e]
theorem strings_Join_run (l : List Str) (s : Str) (r : Str) (hr : strings_Join l s = some r) : Run Tryd.prog 25 [.l cS l, .s s] (.s r) := by
  unfold strings_Join at hr
  split at hr
  case isFalse => cases hr
  rename_i hlen
  cases hr
  refine ⟨⟨_, _, ⟨Tryd.func25, rfl, by kernel_rfl⟩⟩, fun g vs hw hg ha => ?_⟩
  obtain ⟨hsz, hrel⟩ := ha
  obtain ⟨vl⟩ := vs
  match vl, hsz with
  | [x, y], _ =>
    have h0 : Rel g (.l cS l) x := hrel 0 _ rfl
    obtain rfl := str_argJ (hrel 1 _ rfl)
    obtain ⟨ad, cap, rfl, hcap, hcell⟩ := str_cells h0
    refine callsIn_wide.2 ?_
    suffices hs : Calls Tryd.prog 25 #[.slice ad l.length cap, .string (strB s)] g.w fun e w' => e = .returned (.string (strB (Lib.join l s))) ∧ Below g.w.heap.size g.w w' by
      refine hs.mono ?_
      rintro e w' ⟨rfl, hb⟩
      exact ⟨⟨w', g.u, g.loc⟩, _, rfl, rfl, old_below hb, fun k hk => hw k (Nat.le_trans hb.size hk), rfl, .pv (.b rfl)⟩
    cases l with
    | nil => exact (Tryd.strings_Join_none ad cap (strB s) g.w).mono fun e w' ⟨he, hw⟩ => ⟨he, hw ▸ Below.refl _ _⟩
    | cons a l =>
      obtain ⟨b, off, rfl, hb, hc⟩ := hcell (by simp)
      have e1 : ((a :: l).map strB).map (·.data.toList) = a :: l := by
        rw [List.map_map]
        conv => rhs; rw [← List.map_id (a :: l)]
        exact List.map_congr_left fun x _ => rfl
      have := Tryd.strings_Join b off cap ((a :: l).map strB) (strB s) g.w (fun j x hx => by
        simp only [List.getElem?_map, Option.map_eq_some_iff] at hx
        obtain ⟨y, hy, rfl⟩ := hx
        exact hc j y hy) hb (by rw [List.length_map]; exact hlen.1) (by rw [List.length_map]; exact hcap) (by rw [e1]; exact hlen.2)
      rw [e1, List.length_map] at this
      exact this
end Go.Proofs.YtgbahimpdoahbaaDoor

namespace Go.Proofs.YtgbahimpdoahbaaDoor
open Go.RowKit
set_option maxRecDepth 100000
set_option maxHeartbeats 40000000
set_option linter.unusedVariables false
theorem command_conditions_run  (r : Tcommand_condition × Tcommand_condition × Tcommand_condition) (hr : command_conditions = some r) : Run Tryd.prog 24 [] (.agg [.i r.1.n, .s r.1.word, .i r.2.1.n, .s r.2.1.word, .i r.2.2.n, .s r.2.2.word]) := by
 unfold command_conditions at hr
 refine rf (fn := Tryd.f24) ⟨Tryd.func24, rfl, by kernel_rfl⟩ rfl (fun _ => rfl) fun g0 hg => ?_
 refine rn tk 10 rfl ?_
 refine wq (ev_buildA (cs := [.i 1, .s (([102, 97, 105, 108, 117, 114, 101] : Str)), .i 2, .s (([100, 101, 108, 97, 121] : Str)), .i 4, .s (([115, 117, 99, 99, 101, 115, 115] : Str))]) ty__3_command_condition ty_command_condition (.inr ⟨rfl, rfl⟩) (by kernel_rfl)) rfl rfl rfl ?_
 refine rn tk 4 rfl ?_
 cases hr
 exact kr tk (.inr rfl) rfl rfl
theorem command_notify_run (a0 : Int) (r : Str) (hr : command_notify a0 = some r) : Run Tryd.prog 11 [.i a0] (.s r) := by
 unfold command_notify at hr
 refine rf (fn := Tryd.f11) ⟨Tryd.func11, rfl, by kernel_rfl⟩ rfl (fun _ => rfl) fun g0 hg => ?_
 refine rn tk 8 rfl ?_
 refine awpl_adopt 1003 (d := 3) 9 1 rfl rfl rfl (hO ?_)
 refine rn tk 5 rfl ?_
 obtain ⟨v1, h2, hr⟩ := bind_some hr
 refine cl (command_conditions_run _ h2) rfl rfl ?_
 refine rn tk 4 rfl ?_
 refine al1 hr (fun s3 => [(0, .i a0), (3, .hs 1003 0), (6, .agg [.i v1.1.n, .s v1.1.word, .i v1.2.1.n, .s v1.2.1.word, .i v1.2.2.n, .s v1.2.2.word]), (7, .i s3.1)]) (fun s3 => [(1003, .row 9 false 1 (List.map cS s3.2))]) (.exit 0) (fun b4 => [(3, .hs 1003 0)]) (fun b4 => [(1003, .row 9 false 1 (List.map cS b4))]) rfl rfl (fun s3 x5 hr => ?_) (fun b4 hr => ?_)
 ·
  unfold command_notify_l1 at hr
  refine rn tk 6 rfl ?_
  refine ac 8 hr rfl (fun c6 hr => ?_) (fun c6 hr => ?_)
  ·
   refine rn tk 2 rfl ?_
   refine jb hr (fun j7 => [(0, .i a0), (3, .hs 1003 0), (6, .agg [.i v1.1.n, .s v1.1.word, .i v1.2.1.n, .s v1.2.1.word, .i v1.2.2.n, .s v1.2.2.word]), (7, .i s3.1)]) (fun j7 => [(1003, .row 9 false 1 (List.map cS j7))]) (fun j7 hr => ?_) (fun j7 hr => ?_)
   ·
    refine rn tk 3 rfl ?_
    obtain ⟨v8, h9, hr⟩ := bind_some hr
    refine wq (ev_aidxN (f := Tcommand_condition.pc) (L := ([v1.1, v1.2.1, v1.2.2] : List Tcommand_condition)) rfl rfl ty__3_command_condition ty_command_condition rfl rfl (fun _ => rfl) h9) rfl rfl rfl ?_
    refine rn tk 9 rfl ?_
    refine wq (ev_iand rfl rfl) rfl rfl rfl ?_
    refine rn tk 3 rfl ?_
    refine ac 14 hr rfl (fun c10 hr => ?_) (fun c10 hr => ?_)
    ·
     refine rn tk 4 rfl ?_
     refine wz cS ([v8.word] : List Str) tk rfl rfl (fun _ => rfl) rfl rfl rfl ?_
     obtain ⟨v11, h12, hr⟩ := bind_some hr
     refine wa tk h12 rfl rfl rfl rfl (fun _ => rfl) rfl rfl ?_
     refine rn tk 3 rfl ?_
     cases hr
     exact jn _ rfl rfl rfl
    ·
     refine rn tk 2 rfl ?_
     cases hr
     exact jn _ rfl rfl rfl
   ·
    refine rn tk 4 rfl ?_
    cases hr
    exact atc rfl rfl
  ·
   refine rn tk 2 rfl ?_
   cases hr
   exact ato rfl rfl rfl rfl
 ·
  refine rn tk 6 rfl ?_
  refine wnh tk rfl rfl rfl rfl ?_
  refine rn tk 3 rfl ?_
  refine ac 23 hr rfl (fun c13 hr => ?_) (fun c13 hr => ?_)
  ·
   refine rn tk 7 rfl ?_
   cases hr
   exact kr tk (.inr rfl) rfl rfl
  ·
   refine rn tk 5 rfl ?_
   refine awpl_pub (d := 24) (F := cS) (l := b4) rfl rfl (hO ?_)
   obtain ⟨v14, h15, hr⟩ := bind_some hr
   refine cl (strings_Join_run _ _ _ h15) rfl rfl ?_
   refine rn tk 4 rfl ?_
   cases hr
   exact kr tk (.inr rfl) rfl rfl
theorem command_told_run (a0 : Str) (a1 : Bool) (r : Int × Bool) (hr : command_told a0 a1 = some r) : Run Tryd.prog 30 [.s a0, .bo a1] (.tup [.i r.1, .bo r.2]) := by
 unfold command_told at hr
 refine rf (fn := Tryd.f30) ⟨Tryd.func30, rfl, by kernel_rfl⟩ rfl (fun _ => rfl) fun g0 hg => ?_
 refine rn tk 13 rfl ?_
 refine al2 hr (fun s1 => [(0, .s a0), (1, .bo a1), (7, .i s1)]) (fun s1 => []) (.exit 0) (fun b2 => []) (fun b2 => []) .ret (fun b3 => [(4, .i b3.1), (5, .bo b3.2)]) (fun b3 => []) rfl rfl (fun s1 x5 hr => ?_) (fun b2 hr => ?_) (fun b3 hr => ?_)
 ·
  unfold command_told_l1 at hr
  refine rn tk 6 rfl ?_
  refine ac 8 hr rfl (fun c6 hr => ?_) (fun c6 hr => ?_)
  ·
   refine rn tk 10 rfl ?_
   refine jb hr (fun j7 => [(0, .s a0), (1, .bo a1), (6, .i s1), (7, .i s1), (16, .bo j7)]) (fun j7 => []) (fun j7 hr => ?_) (fun j7 hr => ?_)
   ·
    refine rn tk 3 rfl ?_
    refine bs 11 hr rfl (fun c8 hr => ?_) (fun c8 hr => ?_)
    ·
     refine rn tk 1 rfl ?_
     obtain ⟨v9, h10, hr⟩ := bind_some hr
     refine ug rfl rfl rfl ?_
     refine cl (command_notify_run _ _ h10) rfl rfl ?_
     refine rn tk 4 rfl ?_
     cases hr
     exact jn _ rfl rfl rfl
    ·
     refine rn tk 6 rfl ?_
     cases hr
     exact jn _ rfl rfl rfl
   ·
    refine ac 16 hr rfl (fun c11 hr => ?_) (fun c11 hr => ?_)
    ·
     refine rn tk 10 rfl ?_
     cases hr
     exact ato rfl rfl rfl rfl
    ·
     refine rn tk 7 rfl ?_
     cases hr
     exact atc rfl rfl
  ·
   refine rn tk 2 rfl ?_
   cases hr
   exact ato rfl rfl rfl rfl
 ·
  refine rn tk 9 rfl ?_
  cases hr
  exact kr tk (.inr rfl) rfl rfl
 ·
  refine rn tk 2 rfl ?_
  cases hr
  exact kr tk (.inr rfl) rfl rfl
theorem command_read_run (a0 : Int) (a1 : List Str) (r : TCommand × Bool) (hr : command_read a0 a1 = some r) : Run Tryd.prog 18 [.i a0, .l cS a1] (.tup [.agg [.i r.1.Verb, .s r.1.Name, .s r.1.Address, .i r.1.Size, .i r.1.Notify, .bo r.1.Last], .bo r.2]) := by
 unfold command_read at hr
 refine rf (fn := Tryd.f18) ⟨Tryd.func18, rfl, by kernel_rfl⟩ rfl (fun _ => rfl) fun g0 hg => ?_
 refine rn tk 17 rfl ?_
 refine awpl_pubbox 3 (cs := [pL cS a1]) rfl rfl (hO ?_)
 refine rn tk 10 rfl ?_
 refine jk (fun j1 => [(4, .ptr 4 0), (6, .ptr 6 0), (8, .bo j1.1), (9, .bo j1.2.1)]) (fun j1 => [(6, .cells [.i a0, .s j1.2.2.1, .s j1.2.2.2.1, .i j1.2.2.2.2.1, .i j1.2.2.2.2.2.1, .bo j1.2.2.2.2.2.2]), (4, .cells [.i 0, .s (([] : Str)), .s (([] : Str)), .i 0, .i 0, .bo false])]) (fun j1 => command_read_k1 a0 j1 = some r) ?_ ?_
 ·
  refine rn tk 12 rfl ?_
  refine ac 19 hr rfl (fun c4 hr => ?_) (fun c4 hr => ?_)
  ·
   refine rn tk 4 rfl ?_
   refine il (fn := Tryd.f26) (args := [.i 1, .i 1, .ep [pL cS a1]]) 500000 599999 [(3, .ep [pL cS a1]), (4, .ptr 4 0), (6, .ptr 6 0), (8, .bo true), (9, .bo true)] rfl ⟨Tryd.func26, rfl, by kernel_rfl⟩ rfl rfl rfl fun T5 ds5 => ?_
   refine rn tk 5 rfl ?_
   refine jb hr (fun j5 => [(5, .bo j5)]) (fun j5 => [(599999, .sus g0.w.heap.size ds5), (500003, .hold (.ep [pL cS a1]) (T5.getD 3 undef)), (500004, .hold (.ptr 4 0) (T5.getD 4 undef)), (500006, .hold (.ptr 6 0) (T5.getD 6 undef)), (500008, .hold (.bo true) (T5.getD 8 undef)), (500009, .hold (.bo true) (T5.getD 9 undef)), (6, .cells [.i a0, .s (([] : Str)), .s (([] : Str)), .i 0, .i 0, .bo false]), (4, .cells [.i 0, .s (([] : Str)), .s (([] : Str)), .i 0, .i 0, .bo false])]) (fun j5 hr => ?_) (fun j5 hr => ?_)
   ·
    refine rn tk 2 rfl ?_
    refine wn tk rfl rfl rfl ?_
    refine rn tk 3 rfl ?_
    refine bs 10 hr rfl (fun c6 hr => ?_) (fun c6 hr => ?_)
    ·
     refine rn tk 1 rfl ?_
     refine ug rfl rfl rfl ?_
     refine wn tk rfl rfl rfl ?_
     refine rn tk 5 rfl ?_
     cases hr
     exact jn _ rfl rfl rfl
    ·
     refine rn tk 7 rfl ?_
     cases hr
     exact jn _ rfl rfl rfl
   ·
    refine rn tk 1 rfl ?_
    refine ie tk [.bo j5] [(3, .ep [pL cS a1]), (4, .ptr 4 0), (6, .ptr 6 0), (8, .bo true), (9, .bo true)] [(6, .cells [.i a0, .s (([] : Str)), .s (([] : Str)), .i 0, .i 0, .bo false]), (4, .cells [.i 0, .s (([] : Str)), .s (([] : Str)), .i 0, .i 0, .bo false])] (.inr rfl) rfl rfl rfl rfl (hO ?_)
    refine rn tk 3 rfl ?_
    refine ac 23 hr rfl (fun c7 hr => ?_) (fun c7 hr => ?_)
    ·
     refine rn tk 11 rfl ?_
     cases hr
     exact kr tk (.inr rfl) rfl rfl
    ·
     refine rn tk 4 rfl ?_
     obtain ⟨v8, h9, hr⟩ := bind_some hr
     refine wi tk h9 rfl rfl rfl rfl rfl ?_
     refine rn tk 5 rfl ?_
     exact jn ((true, true, v8, ([] : Str), 0, 0, false)) hr rfl rfl
  ·
   refine rn tk 6 rfl ?_
   refine ac 29 hr rfl (fun c10 hr => ?_) (fun c10 hr => ?_)
   ·
    refine rn tk 4 rfl ?_
    refine il (fn := Tryd.f26) (args := [.i 1, .i 2, .ep [pL cS a1]]) 600000 699999 [(3, .ep [pL cS a1]), (4, .ptr 4 0), (6, .ptr 6 0), (9, .bo true)] rfl ⟨Tryd.func26, rfl, by kernel_rfl⟩ rfl rfl rfl fun T6 ds6 => ?_
    refine rn tk 5 rfl ?_
    refine jb hr (fun j11 => [(5, .bo j11)]) (fun j11 => [(699999, .sus g0.w.heap.size ds6), (600003, .hold (.ep [pL cS a1]) (T6.getD 3 undef)), (600004, .hold (.ptr 4 0) (T6.getD 4 undef)), (600006, .hold (.ptr 6 0) (T6.getD 6 undef)), (600009, .hold (.bo true) (T6.getD 9 undef)), (6, .cells [.i a0, .s (([] : Str)), .s (([] : Str)), .i 0, .i 0, .bo false]), (4, .cells [.i 0, .s (([] : Str)), .s (([] : Str)), .i 0, .i 0, .bo false])]) (fun j11 hr => ?_) (fun j11 hr => ?_)
    ·
     refine rn tk 2 rfl ?_
     refine wn tk rfl rfl rfl ?_
     refine rn tk 3 rfl ?_
     refine bs 10 hr rfl (fun c12 hr => ?_) (fun c12 hr => ?_)
     ·
      refine rn tk 1 rfl ?_
      refine ug rfl rfl rfl ?_
      refine wn tk rfl rfl rfl ?_
      refine rn tk 5 rfl ?_
      cases hr
      exact jn _ rfl rfl rfl
     ·
      refine rn tk 7 rfl ?_
      cases hr
      exact jn _ rfl rfl rfl
    ·
     refine rn tk 1 rfl ?_
     refine ie tk [.bo j11] [(3, .ep [pL cS a1]), (4, .ptr 4 0), (6, .ptr 6 0), (9, .bo true)] [(6, .cells [.i a0, .s (([] : Str)), .s (([] : Str)), .i 0, .i 0, .bo false]), (4, .cells [.i 0, .s (([] : Str)), .s (([] : Str)), .i 0, .i 0, .bo false])] (.inr rfl) rfl rfl rfl rfl (hO ?_)
     refine rn tk 3 rfl ?_
     refine ac 33 hr rfl (fun c13 hr => ?_) (fun c13 hr => ?_)
     ·
      refine rn tk 11 rfl ?_
      cases hr
      exact kr tk (.inr rfl) rfl rfl
     ·
      refine rn tk 5 rfl ?_
      obtain ⟨v14, h15, hr⟩ := bind_some hr
      refine wi tk h15 rfl rfl rfl rfl rfl ?_
      refine rn tk 1 rfl ?_
      obtain ⟨v16, h17, hr⟩ := bind_some hr
      refine cl (command_address_run _ _ h17) rfl rfl ?_
      refine rn tk 11 rfl ?_
      refine wn tk rfl rfl rfl ?_
      refine rn tk 3 rfl ?_
      refine ac 45 hr rfl (fun c18 hr => ?_) (fun c18 hr => ?_)
      ·
       refine rn tk 13 rfl ?_
       obtain ⟨v19, h20, hr⟩ := bind_some hr
       refine wlL tk h20 rfl rfl rfl (fun _ => rfl) rfl ?_
       obtain ⟨v21, h22, hr⟩ := bind_some hr
       refine cl (command_option_run _ _ _ h22) rfl rfl ?_
       refine rn tk 10 rfl ?_
       obtain ⟨v23, h24, hr⟩ := bind_some hr
       refine cl (command_number_run _ _ h24) rfl rfl ?_
       refine rn tk 11 rfl ?_
       refine bs 59 hr rfl (fun c25 hr => ?_) (fun c25 hr => ?_)
       ·
        refine rn tk 5 rfl ?_
        exact jn ((v16.2, v21.2, ([] : Str), v16.1, v23.1, 0, false)) hr rfl rfl
       ·
        refine rn tk 5 rfl ?_
        exact jn ((v16.2, false, ([] : Str), v16.1, v23.1, 0, false)) hr rfl rfl
      ·
       refine rn tk 2 rfl ?_
       exact jn ((v16.2, true, ([] : Str), v16.1, 0, 0, false)) hr rfl rfl
   ·
    refine rn tk 6 rfl ?_
    refine ac 62 hr rfl (fun c26 hr => ?_) (fun c26 hr => ?_)
    ·
     refine rn tk 4 rfl ?_
     refine il (fn := Tryd.f26) (args := [.i 1, .i 2, .ep [pL cS a1]]) 700000 799999 [(3, .ep [pL cS a1]), (4, .ptr 4 0), (6, .ptr 6 0), (9, .bo true)] rfl ⟨Tryd.func26, rfl, by kernel_rfl⟩ rfl rfl rfl fun T7 ds7 => ?_
     refine rn tk 5 rfl ?_
     refine jb hr (fun j27 => [(5, .bo j27)]) (fun j27 => [(799999, .sus g0.w.heap.size ds7), (700003, .hold (.ep [pL cS a1]) (T7.getD 3 undef)), (700004, .hold (.ptr 4 0) (T7.getD 4 undef)), (700006, .hold (.ptr 6 0) (T7.getD 6 undef)), (700009, .hold (.bo true) (T7.getD 9 undef)), (6, .cells [.i a0, .s (([] : Str)), .s (([] : Str)), .i 0, .i 0, .bo false]), (4, .cells [.i 0, .s (([] : Str)), .s (([] : Str)), .i 0, .i 0, .bo false])]) (fun j27 hr => ?_) (fun j27 hr => ?_)
     ·
      refine rn tk 2 rfl ?_
      refine wn tk rfl rfl rfl ?_
      refine rn tk 3 rfl ?_
      refine bs 10 hr rfl (fun c28 hr => ?_) (fun c28 hr => ?_)
      ·
       refine rn tk 1 rfl ?_
       refine ug rfl rfl rfl ?_
       refine wn tk rfl rfl rfl ?_
       refine rn tk 5 rfl ?_
       cases hr
       exact jn _ rfl rfl rfl
      ·
       refine rn tk 7 rfl ?_
       cases hr
       exact jn _ rfl rfl rfl
     ·
      refine rn tk 1 rfl ?_
      refine ie tk [.bo j27] [(3, .ep [pL cS a1]), (4, .ptr 4 0), (6, .ptr 6 0), (9, .bo true)] [(6, .cells [.i a0, .s (([] : Str)), .s (([] : Str)), .i 0, .i 0, .bo false]), (4, .cells [.i 0, .s (([] : Str)), .s (([] : Str)), .i 0, .i 0, .bo false])] (.inr rfl) rfl rfl rfl rfl (hO ?_)
      refine rn tk 3 rfl ?_
      refine ac 66 hr rfl (fun c29 hr => ?_) (fun c29 hr => ?_)
      ·
       refine rn tk 11 rfl ?_
       cases hr
       exact kr tk (.inr rfl) rfl rfl
      ·
       refine rn tk 5 rfl ?_
       obtain ⟨v30, h31, hr⟩ := bind_some hr
       refine wi tk h31 rfl rfl rfl rfl rfl ?_
       refine rn tk 1 rfl ?_
       obtain ⟨v32, h33, hr⟩ := bind_some hr
       refine cl (command_address_run _ _ h33) rfl rfl ?_
       refine rn tk 17 rfl ?_
       refine wn tk rfl rfl rfl ?_
       refine rn tk 3 rfl ?_
       refine ac 79 hr rfl (fun c34 hr => ?_) (fun c34 hr => ?_)
       ·
        refine rn tk 2 rfl ?_
        obtain ⟨v35, h36, hr⟩ := bind_some hr
        refine wlL tk h36 rfl rfl rfl (fun _ => rfl) rfl ?_
        obtain ⟨v37, h38, hr⟩ := bind_some hr
        refine cl (command_option_run _ _ _ h38) rfl rfl ?_
        refine rn tk 2 rfl ?_
        obtain ⟨v39, h40, hr⟩ := bind_some hr
        refine cl (command_told_run _ _ _ h40) rfl rfl ?_
        refine rn tk 8 rfl ?_
        exact jn ((v32.2, v39.2, ([] : Str), v32.1, 0, v39.1, false)) hr rfl rfl
       ·
        refine rn tk 2 rfl ?_
        exact jn ((v32.2, true, ([] : Str), v32.1, 0, 1, false)) hr rfl rfl
    ·
     refine rn tk 6 rfl ?_
     refine ac 90 hr rfl (fun c41 hr => ?_) (fun c41 hr => ?_)
     ·
      refine rn tk 4 rfl ?_
      refine il (fn := Tryd.f26) (args := [.i 1, .i 2, .ep [pL cS a1]]) 800000 899999 [(3, .ep [pL cS a1]), (4, .ptr 4 0), (6, .ptr 6 0)] rfl ⟨Tryd.func26, rfl, by kernel_rfl⟩ rfl rfl rfl fun T8 ds8 => ?_
      refine rn tk 5 rfl ?_
      refine jb hr (fun j42 => [(5, .bo j42)]) (fun j42 => [(899999, .sus g0.w.heap.size ds8), (800003, .hold (.ep [pL cS a1]) (T8.getD 3 undef)), (800004, .hold (.ptr 4 0) (T8.getD 4 undef)), (800006, .hold (.ptr 6 0) (T8.getD 6 undef)), (6, .cells [.i a0, .s (([] : Str)), .s (([] : Str)), .i 0, .i 0, .bo false]), (4, .cells [.i 0, .s (([] : Str)), .s (([] : Str)), .i 0, .i 0, .bo false])]) (fun j42 hr => ?_) (fun j42 hr => ?_)
      ·
       refine rn tk 2 rfl ?_
       refine wn tk rfl rfl rfl ?_
       refine rn tk 3 rfl ?_
       refine bs 10 hr rfl (fun c43 hr => ?_) (fun c43 hr => ?_)
       ·
        refine rn tk 1 rfl ?_
        refine ug rfl rfl rfl ?_
        refine wn tk rfl rfl rfl ?_
        refine rn tk 5 rfl ?_
        cases hr
        exact jn _ rfl rfl rfl
       ·
        refine rn tk 7 rfl ?_
        cases hr
        exact jn _ rfl rfl rfl
      ·
       refine rn tk 1 rfl ?_
       refine ie tk [.bo j42] [(3, .ep [pL cS a1]), (4, .ptr 4 0), (6, .ptr 6 0)] [(6, .cells [.i a0, .s (([] : Str)), .s (([] : Str)), .i 0, .i 0, .bo false]), (4, .cells [.i 0, .s (([] : Str)), .s (([] : Str)), .i 0, .i 0, .bo false])] (.inr rfl) rfl rfl rfl rfl (hO ?_)
       refine rn tk 3 rfl ?_
       refine ac 94 hr rfl (fun c44 hr => ?_) (fun c44 hr => ?_)
       ·
        refine rn tk 11 rfl ?_
        cases hr
        exact kr tk (.inr rfl) rfl rfl
       ·
        refine rn tk 5 rfl ?_
        obtain ⟨v45, h46, hr⟩ := bind_some hr
        refine wi tk h46 rfl rfl rfl rfl rfl ?_
        refine rn tk 1 rfl ?_
        obtain ⟨v47, h48, hr⟩ := bind_some hr
        refine cl (command_number_run _ _ h48) rfl rfl ?_
        refine rn tk 11 rfl ?_
        refine wn tk rfl rfl rfl ?_
        refine rn tk 10 rfl ?_
        refine bs 111 hr rfl (fun c49 hr => ?_) (fun c49 hr => ?_)
        ·
         refine rn tk 9 rfl ?_
         exact jn ((v47.2, true, ([] : Str), ([] : Str), v47.1, 0, ((a1.length : Int) == 2))) hr rfl rfl
        ·
         refine rn tk 1 rfl ?_
         obtain ⟨v50, h51, hr⟩ := bind_some hr
         refine ug rfl rfl rfl ?_
         refine wi tk h51 rfl rfl rfl rfl rfl ?_
         refine rn tk 1 rfl ?_
         obtain ⟨v52, h53, hr⟩ := bind_some hr
         refine ug rfl rfl rfl ?_
         refine cl (basic_Lower_run _ _ h53) rfl rfl ?_
         refine rn tk 5 rfl ?_
         exact jn ((v47.2, (v52 == ([108, 97, 115, 116] : Str)), ([] : Str), ([] : Str), v47.1, 0, ((a1.length : Int) == 2))) hr rfl rfl
     ·
      refine rn tk 1 rfl ?_
      obtain ⟨v54, h55, hr⟩ := bind_some hr
      refine dr 3 [(18, .bo v54), (17, .fn (.func 26) [] [.ep [pL cS a1]]), (16, .agg [.i a0, .s (([] : Str)), .s (([] : Str)), .i 0, .i 0, .bo false])] mixed (by kernel_rfl) rfl rfl (pq tk rfl (.plain rfl) (pq tk rfl (.plain rfl) (.run (.plain rfl) (opG_callV rfl (command_read_1_run 0 0 a1 v54 h55) rfl) .nil))) rfl ?_
      refine rn tk 7 rfl ?_
      cases hr
      exact kr tk (.inr rfl) rfl rfl
 ·
  intro j1 hr
  unfold command_read_k1 at hr
  refine jb hr (fun j2 => [(4, .ptr 4 0), (5, .bo j2)]) (fun j2 => [(4, .cells [.i a0, .s j1.2.2.1, .s j1.2.2.2.1, .i j1.2.2.2.2.1, .i j1.2.2.2.2.2.1, .bo j1.2.2.2.2.2.2])]) (fun j2 hr => ?_) (fun j2 hr => ?_)
  ·
   refine rn tk 4 rfl ?_
   refine bs 120 hr rfl (fun c3 hr => ?_) (fun c3 hr => ?_)
   ·
    refine rn tk 5 rfl ?_
    cases hr
    exact jn _ rfl rfl rfl
   ·
    refine rn tk 5 rfl ?_
    cases hr
    exact jn _ rfl rfl rfl
  ·
   refine rn tk 1 rfl ?_
   cases hr
   exact kr tk (.inr rfl) rfl rfl
theorem command_words_run  (r : Str × Str × Str × Str × Str × Str × Str × Str) (hr : command_words = some r) : Run Tryd.prog 9 [] (.agg [.s r.1, .s r.2.1, .s r.2.2.1, .s r.2.2.2.1, .s r.2.2.2.2.1, .s r.2.2.2.2.2.1, .s r.2.2.2.2.2.2.1, .s r.2.2.2.2.2.2.2]) := by
 unfold command_words at hr
 refine rf (fn := Tryd.f9) ⟨Tryd.func9, rfl, by kernel_rfl⟩ rfl (fun _ => rfl) fun g0 hg => ?_
 refine rn tk 7 rfl ?_
 refine wq (ev_buildA (cs := [.s (([104, 101, 108, 108, 111] : Str)), .s (([109, 97, 105, 108] : Str)), .s (([114, 99, 112, 116] : Str)), .s (([100, 97, 116, 97] : Str)), .s (([99, 104, 117, 110, 107] : Str)), .s (([114, 101, 115, 101, 116] : Str)), .s (([110, 111, 111, 112] : Str)), .s (([113, 117, 105, 116] : Str))]) ty__8_string ty_string (.inr ⟨rfl, rfl⟩) (by kernel_rfl)) rfl rfl rfl ?_
 refine rn tk 4 rfl ?_
 cases hr
 exact kr tk (.inr rfl) rfl rfl
theorem command_Parse_run (a0 : Str) (r : TCommand × TFault) (hr : command_Parse a0 = some r) : Run Tryd.prog 6 [.s a0] (.tup [.agg [.i r.1.Verb, .s r.1.Name, .s r.1.Address, .i r.1.Size, .i r.1.Notify, .bo r.1.Last], .agg [.i r.2.Code, .i r.2.Index]]) := by
 unfold command_Parse at hr
 refine rf (fn := Tryd.f6) ⟨Tryd.func6, rfl, by kernel_rfl⟩ rfl (fun _ => rfl) fun g0 hg => ?_
 refine rn tk 14 rfl ?_
 refine ac 13 hr rfl (fun c1 hr => ?_) (fun c1 hr => ?_)
 ·
  refine rn tk 3 rfl ?_
  obtain ⟨v2, h3, hr⟩ := bind_some hr
  refine cl (basic_Fault_run _ _ _ h3) rfl rfl ?_
  refine rn tk 6 rfl ?_
  cases hr
  exact kr tk (.inr rfl) rfl rfl
 ·
  refine rn tk 5 rfl ?_
  obtain ⟨v4, h5, hr⟩ := bind_some hr
  refine cl (strings_FieldsFunc_sp_run _ _ h5) rfl rfl ?_
  refine rn tk 11 rfl ?_
  obtain ⟨v6, h7, hr⟩ := bind_some hr
  refine cl (command_words_run _ h7) rfl rfl ?_
  refine rn tk 4 rfl ?_
  refine al1 hr (fun s8 => [(2, .ptr 2 0), (3, .ptr 3 0), (4, .l cS v4), (5, .i s8.1), (18, .agg [.s v6.1, .s v6.2.1, .s v6.2.2.1, .s v6.2.2.2.1, .s v6.2.2.2.2.1, .s v6.2.2.2.2.2.1, .s v6.2.2.2.2.2.2.1, .s v6.2.2.2.2.2.2.2]), (19, .i s8.2)]) (fun s8 => [(3, .cells [.i 0, .i 0]), (2, .cells [.i 0, .s (([] : Str)), .s (([] : Str)), .i 0, .i 0, .bo false])]) (.exit 0) (fun b9 => [(2, .ptr 2 0), (3, .ptr 3 0), (4, .l cS v4), (5, .i b9)]) (fun b9 => [(3, .cells [.i 0, .i 0]), (2, .cells [.i 0, .s (([] : Str)), .s (([] : Str)), .i 0, .i 0, .bo false])]) rfl rfl (fun s8 x10 hr => ?_) (fun b9 hr => ?_)
  ·
   unfold command_Parse_l1 at hr
   refine rn tk 6 rfl ?_
   refine ac 20 hr rfl (fun c11 hr => ?_) (fun c11 hr => ?_)
   ·
    refine rn tk 2 rfl ?_
    refine jb hr (fun j12 => [(2, .ptr 2 0), (3, .ptr 3 0), (4, .l cS v4), (5, .i j12), (18, .agg [.s v6.1, .s v6.2.1, .s v6.2.2.1, .s v6.2.2.2.1, .s v6.2.2.2.2.1, .s v6.2.2.2.2.2.1, .s v6.2.2.2.2.2.2.1, .s v6.2.2.2.2.2.2.2]), (19, .i s8.2)]) (fun j12 => [(3, .cells [.i 0, .i 0]), (2, .cells [.i 0, .s (([] : Str)), .s (([] : Str)), .i 0, .i 0, .bo false])]) (fun j12 hr => ?_) (fun j12 hr => ?_)
    ·
     refine rn tk 4 rfl ?_
     obtain ⟨v13, h14, hr⟩ := bind_some hr
     refine wq (ev_aidx (f := cS) (L := ([v6.1, v6.2.1, v6.2.2.1, v6.2.2.2.1, v6.2.2.2.2.1, v6.2.2.2.2.2.1, v6.2.2.2.2.2.2.1, v6.2.2.2.2.2.2.2] : List Str)) rfl rfl ty__8_string ty_string rfl rfl (fun _ => rfl) h14 rfl) rfl rfl rfl ?_
     refine rn tk 4 rfl ?_
     refine jb hr (fun j15 => [(2, .ptr 2 0), (3, .ptr 3 0), (4, .l cS v4), (5, .i s8.1), (6, .i s8.2), (18, .agg [.s v6.1, .s v6.2.1, .s v6.2.2.1, .s v6.2.2.2.1, .s v6.2.2.2.2.1, .s v6.2.2.2.2.2.1, .s v6.2.2.2.2.2.2.1, .s v6.2.2.2.2.2.2.2]), (19, .i s8.2), (33, .bo j15)]) (fun j15 => [(3, .cells [.i 0, .i 0]), (2, .cells [.i 0, .s (([] : Str)), .s (([] : Str)), .i 0, .i 0, .bo false])]) (fun j15 hr => ?_) (fun j15 hr => ?_)
     ·
      refine rn tk 2 rfl ?_
      refine wn tk rfl rfl rfl ?_
      refine rn tk 2 rfl ?_
      refine bs 26 hr rfl (fun c16 hr => ?_) (fun c16 hr => ?_)
      ·
       refine rn tk 1 rfl ?_
       obtain ⟨v17, h18, hr⟩ := bind_some hr
       refine ug rfl rfl rfl ?_
       refine wi tk h18 rfl rfl rfl rfl rfl ?_
       refine rn tk 1 rfl ?_
       obtain ⟨v19, h20, hr⟩ := bind_some hr
       refine ug rfl rfl rfl ?_
       refine cl (basic_Lower_run _ _ h20) rfl rfl ?_
       refine rn tk 4 rfl ?_
       cases hr
       exact jn _ rfl rfl rfl
      ·
       refine rn tk 8 rfl ?_
       cases hr
       exact jn _ rfl rfl rfl
     ·
      refine ac 33 hr rfl (fun c21 hr => ?_) (fun c21 hr => ?_)
      ·
       refine rn tk 6 rfl ?_
       cases hr
       exact jn _ rfl rfl rfl
      ·
       refine rn tk 2 rfl ?_
       cases hr
       exact jn _ rfl rfl rfl
    ·
     refine rn tk 4 rfl ?_
     cases hr
     exact atc rfl rfl
   ·
    refine rn tk 2 rfl ?_
    cases hr
    exact ato rfl rfl rfl rfl
  ·
   refine rn tk 9 rfl ?_
   refine ac 38 hr rfl (fun c22 hr => ?_) (fun c22 hr => ?_)
   ·
    refine rn tk 3 rfl ?_
    obtain ⟨v23, h24, hr⟩ := bind_some hr
    refine cl (basic_Fault_run _ _ _ h24) rfl rfl ?_
    refine rn tk 6 rfl ?_
    cases hr
    exact kr tk (.inr rfl) rfl rfl
   ·
    refine rn tk 6 rfl ?_
    obtain ⟨v25, h26, hr⟩ := bind_some hr
    refine wlL tk h26 rfl rfl rfl (fun _ => rfl) rfl ?_
    obtain ⟨v27, h28, hr⟩ := bind_some hr
    refine cl (command_read_run _ _ _ h28) rfl rfl ?_
    refine rn tk 15 rfl ?_
    refine ac 49 hr rfl (fun c29 hr => ?_) (fun c29 hr => ?_)
    ·
     refine rn tk 3 rfl ?_
     obtain ⟨v30, h31, hr⟩ := bind_some hr
     refine cl (basic_Fault_run _ _ _ h31) rfl rfl ?_
     refine rn tk 6 rfl ?_
     cases hr
     exact kr tk (.inr rfl) rfl rfl
    ·
     refine rn tk 6 rfl ?_
     obtain ⟨v32, h33, hr⟩ := bind_some hr
     refine cl (command_Validate_run _ _ h33) rfl rfl ?_
     refine rn tk 7 rfl ?_
     obtain ⟨v34, h35, hr⟩ := bind_some hr
     refine cl (basic_Failed_run _ _ h35) rfl rfl ?_
     refine rn tk 2 rfl ?_
     refine ac 55 hr rfl (fun c36 hr => ?_) (fun c36 hr => ?_)
     ·
      refine rn tk 1 rfl ?_
      refine drX 2 3 3 3 [1] [(57, .agg [.i v32.Code, .i v32.Index]), (56, .agg [.i 0, .s (([] : Str)), .s (([] : Str)), .i 0, .i 0, .bo false])] [(2, .ptr 2 0), (3, .ptr 3 0), (57, .agg [.i v32.Code, .i v32.Index])] [(10, .cells [.i v32.Code, .i v32.Index]), (8, .cells [.i v27.1.Verb, .s v27.1.Name, .s v27.1.Address, .i v27.1.Size, .i v27.1.Notify, .bo v27.1.Last]), (3, .cells [.i 0, .i 0]), (2, .cells [.i 0, .s (([] : Str)), .s (([] : Str)), .i 0, .i 0, .bo false])] tk mixed (by kernel_rfl) rfl rfl rfl (pqX tk rfl (.plain rfl) (pqX tk rfl (.plain rfl) .nil)) rfl rfl rfl rfl (by kernel_rfl) ?_
      refine rn tk 5 rfl ?_
      cases hr
      exact kr tk (.inr rfl) rfl rfl
     ·
      refine rn tk 3 rfl ?_
      obtain ⟨v37, h38, hr⟩ := bind_some hr
      refine dr 2 [(59, .agg [.i v37.Code, .i v37.Index]), (58, .agg [.i v27.1.Verb, .s v27.1.Name, .s v27.1.Address, .i v27.1.Size, .i v27.1.Notify, .bo v27.1.Last])] mixed (by kernel_rfl) rfl rfl (pq tk rfl (.plain rfl) (.run (.plain rfl) (opG_call (basic_None_run  v37 h38) rfl) .nil)) rfl ?_
      refine rn tk 5 rfl ?_
      cases hr
      exact kr tk (.inr rfl) rfl rfl
theorem command_Print_run (a0 : TCommand) (r : Str × TFault) (hr : command_Print a0 = some r) : Run Tryd.prog 4 [.agg [.i a0.Verb, .s a0.Name, .s a0.Address, .i a0.Size, .i a0.Notify, .bo a0.Last]] (.tup [.s r.1, .agg [.i r.2.Code, .i r.2.Index]]) := by
 unfold command_Print at hr
 refine rf (fn := Tryd.f4) ⟨Tryd.func4, rfl, by kernel_rfl⟩ rfl (fun _ => rfl) fun g0 hg => ?_
 refine rn tk 11 rfl ?_
 obtain ⟨v1, h2, hr⟩ := bind_some hr
 refine cl (command_Validate_run _ _ h2) rfl rfl ?_
 refine rn tk 7 rfl ?_
 obtain ⟨v3, h4, hr⟩ := bind_some hr
 refine cl (basic_Failed_run _ _ h4) rfl rfl ?_
 refine rn tk 2 rfl ?_
 refine ac 9 hr rfl (fun c5 hr => ?_) (fun c5 hr => ?_)
 ·
  refine rn tk 1 rfl ?_
  refine dr 2 [(2, .s (([] : Str))), (10, .agg [.i v1.Code, .i v1.Index])] mixed (by kernel_rfl) rfl rfl (pq tk rfl (.plain rfl) (pq tk rfl (.plain rfl) .nil)) rfl ?_
  refine rn tk 5 rfl ?_
  cases hr
  exact kr tk (.inr rfl) rfl rfl
 ·
  refine rn tk 3 rfl ?_
  obtain ⟨v6, h7, hr⟩ := bind_some hr
  refine dr 4 [(14, .i ((w64 (a0.Verb - 1)))), (13, .i a0.Verb), (12, .ptr 1 0), (11, .agg [.s v6.1, .s v6.2.1, .s v6.2.2.1, .s v6.2.2.2.1, .s v6.2.2.2.2.1, .s v6.2.2.2.2.2.1, .s v6.2.2.2.2.2.2.1, .s v6.2.2.2.2.2.2.2])] mixed (by kernel_rfl) rfl rfl (.run (.plain rfl) (opG_call (command_words_run  v6 h7) rfl) (pq tk rfl (.plain rfl) (pq tk rfl (.plain rfl) (pq tk rfl (.plain rfl) .nil)))) rfl ?_
  obtain ⟨v8, h9, hr⟩ := bind_some hr
  refine wq (ev_aidx (f := cS) (L := ([v6.1, v6.2.1, v6.2.2.1, v6.2.2.2.1, v6.2.2.2.2.1, v6.2.2.2.2.2.1, v6.2.2.2.2.2.2.1, v6.2.2.2.2.2.2.2] : List Str)) rfl rfl ty__8_string ty_string rfl rfl (fun _ => rfl) h9 rfl) rfl rfl rfl ?_
  refine rn tk 3 rfl ?_
  refine jb hr (fun j10 => [(3, .ptr 3 0), (5, .s j10)]) (fun j10 => [(3, .cells [.i 0, .i 0])]) (fun j10 hr => ?_) (fun j10 hr => ?_)
  ·
   refine rn tk 13 rfl ?_
   refine ac 18 hr rfl (fun c11 hr => ?_) (fun c11 hr => ?_)
   ·
    refine rn tk 4 rfl ?_
    obtain ⟨v12, h13, hr⟩ := bind_some hr
    refine wc h13 rfl rfl rfl ?_
    obtain ⟨v14, h15, hr⟩ := bind_some hr
    refine wc h15 rfl rfl rfl ?_
    refine rn tk 3 rfl ?_
    cases hr
    exact jn _ rfl rfl rfl
   ·
    refine rn tk 6 rfl ?_
    refine ac 25 hr rfl (fun c16 hr => ?_) (fun c16 hr => ?_)
    ·
     refine rn tk 5 rfl ?_
     obtain ⟨v17, h18, hr⟩ := bind_some hr
     refine wc h18 rfl rfl rfl ?_
     obtain ⟨v19, h20, hr⟩ := bind_some hr
     refine wc h20 rfl rfl rfl ?_
     obtain ⟨v21, h22, hr⟩ := bind_some hr
     refine wc h22 rfl rfl rfl ?_
     refine rn tk 10 rfl ?_
     refine ac 35 hr rfl (fun c23 hr => ?_) (fun c23 hr => ?_)
     ·
      refine rn tk 4 rfl ?_
      obtain ⟨v24, h25, hr⟩ := bind_some hr
      refine cl (strconv_Itoa_run _ _ h25) rfl rfl ?_
      obtain ⟨v26, h27, hr⟩ := bind_some hr
      refine wc h27 rfl rfl rfl ?_
      obtain ⟨v28, h29, hr⟩ := bind_some hr
      refine wc h29 rfl rfl rfl ?_
      refine rn tk 3 rfl ?_
      cases hr
      exact jn _ rfl rfl rfl
     ·
      refine rn tk 2 rfl ?_
      cases hr
      exact jn _ rfl rfl rfl
    ·
     refine rn tk 6 rfl ?_
     refine ac 42 hr rfl (fun c30 hr => ?_) (fun c30 hr => ?_)
     ·
      refine rn tk 5 rfl ?_
      obtain ⟨v31, h32, hr⟩ := bind_some hr
      refine wc h32 rfl rfl rfl ?_
      obtain ⟨v33, h34, hr⟩ := bind_some hr
      refine wc h34 rfl rfl rfl ?_
      obtain ⟨v35, h36, hr⟩ := bind_some hr
      refine wc h36 rfl rfl rfl ?_
      refine rn tk 10 rfl ?_
      refine ac 52 hr rfl (fun c37 hr => ?_) (fun c37 hr => ?_)
      ·
       refine rn tk 4 rfl ?_
       obtain ⟨v38, h39, hr⟩ := bind_some hr
       refine cl (command_notify_run _ _ h39) rfl rfl ?_
       obtain ⟨v40, h41, hr⟩ := bind_some hr
       refine wc h41 rfl rfl rfl ?_
       obtain ⟨v42, h43, hr⟩ := bind_some hr
       refine wc h43 rfl rfl rfl ?_
       refine rn tk 3 rfl ?_
       cases hr
       exact jn _ rfl rfl rfl
      ·
       refine rn tk 2 rfl ?_
       cases hr
       exact jn _ rfl rfl rfl
     ·
      refine rn tk 6 rfl ?_
      refine ac 59 hr rfl (fun c44 hr => ?_) (fun c44 hr => ?_)
      ·
       refine rn tk 5 rfl ?_
       obtain ⟨v45, h46, hr⟩ := bind_some hr
       refine cl (strconv_Itoa_run _ _ h46) rfl rfl ?_
       obtain ⟨v47, h48, hr⟩ := bind_some hr
       refine wc h48 rfl rfl rfl ?_
       obtain ⟨v49, h50, hr⟩ := bind_some hr
       refine wc h50 rfl rfl rfl ?_
       refine rn tk 9 rfl ?_
       refine ac 68 hr rfl (fun c51 hr => ?_) (fun c51 hr => ?_)
       ·
        refine rn tk 2 rfl ?_
        obtain ⟨v52, h53, hr⟩ := bind_some hr
        refine wc h53 rfl rfl rfl ?_
        refine rn tk 3 rfl ?_
        cases hr
        exact jn _ rfl rfl rfl
       ·
        refine rn tk 2 rfl ?_
        cases hr
        exact jn _ rfl rfl rfl
      ·
       refine rn tk 2 rfl ?_
       cases hr
       exact jn _ rfl rfl rfl
  ·
   refine rn tk 3 rfl ?_
   obtain ⟨v54, h55, hr⟩ := bind_some hr
   refine cl (basic_None_run _ h55) rfl rfl ?_
   refine rn tk 5 rfl ?_
   cases hr
   exact kr tk (.inr rfl) rfl rfl
theorem L_commands_run  (r : Bool) (hr : L_commands = some r) : Run Tryd.prog 5 [] (.bo r) := by
 unfold L_commands at hr
 refine rf (fn := Tryd.f5) ⟨Tryd.func5, rfl, by kernel_rfl⟩ rfl (fun _ => rfl) fun g0 hg => ?_
 refine rn tk 7 rfl ?_
 obtain ⟨v1, h2, hr⟩ := bind_some hr
 refine cl (command_Parse_run _ _ h2) rfl rfl ?_
 refine rn tk 12 rfl ?_
 obtain ⟨v3, h4, hr⟩ := bind_some hr
 refine cl (command_Print_run _ _ h4) rfl rfl ?_
 refine rn tk 10 rfl ?_
 obtain ⟨v5, h6, hr⟩ := bind_some hr
 refine cl (command_Parse_run _ _ h6) rfl rfl ?_
 refine rn tk 9 rfl ?_
 refine jb hr (fun j7 => [(0, .bo j7)]) (fun j7 => []) (fun j7 hr => ?_) (fun j7 hr => ?_)
 ·
  refine bool_split ((v1.2.Code == 0)) (fun c8 => ?_) (fun c8 => ?_)
  ·
   replace hr := cond_t c8 hr
   refine bool_split ((v3.2.Code == 0)) (fun c9 => ?_) (fun c9 => ?_)
   ·
    replace hr := cond_t c9 hr
    obtain ⟨v10, h11, hr⟩ := bind_some hr
    refine bool_split ((allEq [(v5.2.Code == v10.Code), (v5.2.Index == v10.Index)])) (fun c12 => ?_) (fun c12 => ?_)
    ·
     replace hr := cond_t c12 hr
     refine dr 16 [(35, .agg [.i 2, .s (([] : Str)), .s (([97, 64, 98] : Str)), .i 10, .i 0, .bo false]), (34, .agg [.i v1.1.Verb, .s v1.1.Name, .s v1.1.Address, .i v1.1.Size, .i v1.1.Notify, .bo v1.1.Last]), (33, .bo ((allEq [(v5.2.Code == v10.Code), (v5.2.Index == v10.Index)]))), (32, .bo ((allEq [(v5.2.Code == v10.Code), (v5.2.Index == v10.Index)]))), (31, .bo ((allEq [(v5.2.Code == v10.Code), (v5.2.Index == v10.Index)]))), (30, .agg [.i v10.Code, .i v10.Index]), (29, .agg [.i v5.2.Code, .i v5.2.Index]), (28, .bo ((v3.2.Code == 0))), (27, .bo ((v3.2.Code == 0))), (26, .bo ((v3.2.Code == 0))), (25, .i v3.2.Code), (24, .ptr 4 0), (23, .bo ((v1.2.Code == 0))), (22, .bo ((v1.2.Code == 0))), (21, .i v1.2.Code), (20, .ptr 2 0)] mixed (by kernel_rfl) rfl rfl (pq tk rfl (.plain rfl) (pq tk rfl (.plain rfl) (pq tk rfl (.plain rfl) (pq tk rfl (.plain rfl) (pq tk rfl (.yes (d := 23) rfl rfl rfl c8) (pq tk rfl (.yes (d := 23) rfl rfl rfl c8) (pq tk rfl (.yes (d := 23) rfl rfl rfl c8) (.run (.plain rfl) (opG_q (ev_pick_t rfl c8)) (pq tk rfl (.plain rfl) (pq tk rfl (.yes (d := 28) rfl rfl rfl c9) (.run (.yes (d := 28) rfl rfl rfl c9) (opG_call (R_At_run 11 ((-3)) v10 h11) rfl) (.run (.yes (d := 28) rfl rfl rfl c9) (opG_q (ev_structeq rfl rfl ty_api_Fault cmp_api_Fault (.int rfl (by decide) ty_int (.int rfl (by decide) ty_int .nil)))) (.run (.plain rfl) (opG_q (ev_pick_t rfl c9)) (pq tk rfl (.plain rfl) (pq tk rfl (.yes (d := 33) rfl rfl rfl c12) (pq tk rfl (.yes (d := 33) rfl rfl rfl c12) .nil)))))))))))))))) rfl ?_
     refine kn 33 c12 rfl ?_
     refine ug rfl rfl rfl ?_
     refine wq (ev_structeq rfl rfl ty_api_Command cmp_api_Command (.int rfl (by decide) ty_int (.str rfl (by decide) ty_string (.str rfl (by decide) ty_string (.int rfl (by decide) ty_int (.int rfl (by decide) ty_int (.bool rfl (by decide) ty_bool .nil))))))) rfl rfl rfl ?_
     refine rn tk 2 rfl ?_
     refine bs 38 hr rfl (fun c13 hr => ?_) (fun c13 hr => ?_)
     ·
      refine rn tk 4 rfl ?_
      refine bs 42 hr rfl (fun c14 hr => ?_) (fun c14 hr => ?_)
      ·
       refine rn tk 1 rfl ?_
       obtain ⟨v15, h16, hr⟩ := bind_some hr
       refine ug rfl rfl rfl ?_
       refine cl (command_Validate_run _ _ h16) rfl rfl ?_
       obtain ⟨v17, h18, hr⟩ := bind_some hr
       refine ug rfl rfl rfl ?_
       refine cl (R_At_run _ _ _ h18) rfl rfl ?_
       refine ug rfl rfl rfl ?_
       refine wq (ev_structeq rfl rfl ty_api_Fault cmp_api_Fault (.int rfl (by decide) ty_int (.int rfl (by decide) ty_int .nil))) rfl rfl rfl ?_
       refine rn tk 3 rfl ?_
       cases hr
       exact jn _ rfl rfl rfl
      ·
       refine rn tk 7 rfl ?_
       cases hr
       exact jn _ rfl rfl rfl
     ·
      refine rn tk 11 rfl ?_
      cases hr
      exact jn _ rfl rfl rfl
    ·
     replace hr := cond_f c12 hr
     refine dr 16 [(35, .tup []), (34, .tup []), (33, .bo ((allEq [(v5.2.Code == v10.Code), (v5.2.Index == v10.Index)]))), (32, .bo ((allEq [(v5.2.Code == v10.Code), (v5.2.Index == v10.Index)]))), (31, .bo ((allEq [(v5.2.Code == v10.Code), (v5.2.Index == v10.Index)]))), (30, .agg [.i v10.Code, .i v10.Index]), (29, .agg [.i v5.2.Code, .i v5.2.Index]), (28, .bo ((v3.2.Code == 0))), (27, .bo ((v3.2.Code == 0))), (26, .bo ((v3.2.Code == 0))), (25, .i v3.2.Code), (24, .ptr 4 0), (23, .bo ((v1.2.Code == 0))), (22, .bo ((v1.2.Code == 0))), (21, .i v1.2.Code), (20, .ptr 2 0)] mixed (by kernel_rfl) rfl rfl (pq tk rfl (.plain rfl) (pq tk rfl (.plain rfl) (pq tk rfl (.plain rfl) (pq tk rfl (.plain rfl) (pq tk rfl (.yes (d := 23) rfl rfl rfl c8) (pq tk rfl (.yes (d := 23) rfl rfl rfl c8) (pq tk rfl (.yes (d := 23) rfl rfl rfl c8) (.run (.plain rfl) (opG_q (ev_pick_t rfl c8)) (pq tk rfl (.plain rfl) (pq tk rfl (.yes (d := 28) rfl rfl rfl c9) (.run (.yes (d := 28) rfl rfl rfl c9) (opG_call (R_At_run 11 ((-3)) v10 h11) rfl) (.run (.yes (d := 28) rfl rfl rfl c9) (opG_q (ev_structeq rfl rfl ty_api_Fault cmp_api_Fault (.int rfl (by decide) ty_int (.int rfl (by decide) ty_int .nil)))) (.run (.plain rfl) (opG_q (ev_pick_t rfl c9)) (pq tk rfl (.plain rfl) (.skip (.no (d := 33) rfl rfl rfl c12) (.skip (.no (d := 33) rfl rfl rfl c12) .nil)))))))))))))))) rfl ?_
     refine kn 33 c12 rfl ?_
     refine rn tk 14 rfl ?_
     cases hr
     exact jn _ rfl rfl rfl
   ·
    replace hr := cond_f c9 hr
    refine dr 16 [(35, .tup []), (34, .tup []), (33, .bo false), (32, .bo false), (31, .tup []), (30, .tup []), (29, .tup []), (28, .bo ((v3.2.Code == 0))), (27, .bo ((v3.2.Code == 0))), (26, .bo ((v3.2.Code == 0))), (25, .i v3.2.Code), (24, .ptr 4 0), (23, .bo ((v1.2.Code == 0))), (22, .bo ((v1.2.Code == 0))), (21, .i v1.2.Code), (20, .ptr 2 0)] mixed (by kernel_rfl) rfl rfl (pq tk rfl (.plain rfl) (pq tk rfl (.plain rfl) (pq tk rfl (.plain rfl) (pq tk rfl (.plain rfl) (pq tk rfl (.yes (d := 23) rfl rfl rfl c8) (pq tk rfl (.yes (d := 23) rfl rfl rfl c8) (pq tk rfl (.yes (d := 23) rfl rfl rfl c8) (.run (.plain rfl) (opG_q (ev_pick_t rfl c8)) (pq tk rfl (.plain rfl) (.skip (.no (d := 28) rfl rfl rfl c9) (.skip (.no (d := 28) rfl rfl rfl c9) (.skip (.no (d := 28) rfl rfl rfl c9) (.run (.plain rfl) (opG_q (ev_pick_f rfl c9)) (pq tk rfl (.plain rfl) (.skip (.no (d := 33) rfl rfl rfl rfl) (.skip (.no (d := 33) rfl rfl rfl rfl) .nil)))))))))))))))) rfl ?_
    refine rn tk 14 rfl ?_
    cases hr
    exact jn _ rfl rfl rfl
  ·
   replace hr := cond_f c8 hr
   refine dr 16 [(35, .tup []), (34, .tup []), (33, .bo false), (32, .bo false), (31, .tup []), (30, .tup []), (29, .tup []), (28, .bo false), (27, .bo false), (26, .tup []), (25, .tup []), (24, .tup []), (23, .bo ((v1.2.Code == 0))), (22, .bo ((v1.2.Code == 0))), (21, .i v1.2.Code), (20, .ptr 2 0)] mixed (by kernel_rfl) rfl rfl (pq tk rfl (.plain rfl) (pq tk rfl (.plain rfl) (pq tk rfl (.plain rfl) (pq tk rfl (.plain rfl) (.skip (.no (d := 23) rfl rfl rfl c8) (.skip (.no (d := 23) rfl rfl rfl c8) (.skip (.no (d := 23) rfl rfl rfl c8) (.run (.plain rfl) (opG_q (ev_pick_f rfl c8)) (pq tk rfl (.plain rfl) (.skip (.no (d := 28) rfl rfl rfl rfl) (.skip (.no (d := 28) rfl rfl rfl rfl) (.skip (.no (d := 28) rfl rfl rfl rfl) (pq tk rfl (.plain rfl) (pq tk rfl (.plain rfl) (.skip (.no (d := 33) rfl rfl rfl rfl) (.skip (.no (d := 33) rfl rfl rfl rfl) .nil)))))))))))))))) rfl ?_
   refine rn tk 14 rfl ?_
   cases hr
   exact jn _ rfl rfl rfl
 ·
  refine rn tk 1 rfl ?_
  cases hr
  exact kr tk (.inr rfl) rfl rfl
theorem L_CommandRoundTrips_run (a0 : TCommand) (r : Bool) (hr : L_CommandRoundTrips a0 = some r) : Run Tryd.prog 3 [.agg [.i a0.Verb, .s a0.Name, .s a0.Address, .i a0.Size, .i a0.Notify, .bo a0.Last]] (.bo r) := by
 unfold L_CommandRoundTrips at hr
 refine rf (fn := Tryd.f3) ⟨Tryd.func3, rfl, by kernel_rfl⟩ rfl (fun _ => rfl) fun g0 hg => ?_
 refine rn tk 9 rfl ?_
 obtain ⟨v1, h2, hr⟩ := bind_some hr
 refine cl (command_Print_run _ _ h2) rfl rfl ?_
 refine rn tk 9 rfl ?_
 refine jb hr (fun j3 => [(1, .ptr 1 0), (3, .s v1.1), (23, .bo j3)]) (fun j3 => [(1, .cells [.i a0.Verb, .s a0.Name, .s a0.Address, .i a0.Size, .i a0.Notify, .bo a0.Last])]) (fun j3 hr => ?_) (fun j3 hr => ?_)
 ·
  refine rn tk 1 rfl ?_
  obtain ⟨v4, h5, hr⟩ := bind_some hr
  refine cl (L_commands_run _ h5) rfl rfl ?_
  refine rn tk 2 rfl ?_
  refine bs 19 hr rfl (fun c6 hr => ?_) (fun c6 hr => ?_)
  ·
   refine rn tk 5 rfl ?_
   cases hr
   exact jn _ rfl rfl rfl
  ·
   refine rn tk 5 rfl ?_
   cases hr
   exact jn _ rfl rfl rfl
 ·
  refine ac 23 hr rfl (fun c7 hr => ?_) (fun c7 hr => ?_)
  ·
   refine jb hr (fun j8 => [(2, .bo j8)]) (fun j8 => []) (fun j8 hr => ?_) (fun j8 hr => ?_)
   ·
    refine rn tk 1 rfl ?_
    obtain ⟨v9, h10, hr⟩ := bind_some hr
    refine cl (L_commands_run _ h10) rfl rfl ?_
    refine rn tk 1 rfl ?_
    refine bs 25 hr rfl (fun c11 hr => ?_) (fun c11 hr => ?_)
    ·
     refine rn tk 5 rfl ?_
     cases hr
     exact jn _ rfl rfl rfl
    ·
     refine rn tk 5 rfl ?_
     cases hr
     exact jn _ rfl rfl rfl
   ·
    refine rn tk 2 rfl ?_
    cases hr
    exact kr tk (.inr rfl) rfl rfl
  ·
   refine rn tk 5 rfl ?_
   obtain ⟨v12, h13, hr⟩ := bind_some hr
   refine cl (command_Parse_run _ _ h13) rfl rfl ?_
   refine rn tk 16 rfl ?_
   refine al1 hr (fun s14 => [(1, .ptr 1 0), (3, .s v1.1), (5, .ptr 5 0), (6, .ptr 6 0), (7, .i s14)]) (fun s14 => [(6, .cells [.i v12.2.Code, .i v12.2.Index]), (5, .cells [.i v12.1.Verb, .s v12.1.Name, .s v12.1.Address, .i v12.1.Size, .i v12.1.Notify, .bo v12.1.Last]), (1, .cells [.i a0.Verb, .s a0.Name, .s a0.Address, .i a0.Size, .i a0.Notify, .bo a0.Last])]) (.exit 0) (fun b15 => [(1, .ptr 1 0), (3, .s v1.1), (5, .ptr 5 0), (6, .ptr 6 0), (7, .i b15)]) (fun b15 => [(6, .cells [.i v12.2.Code, .i v12.2.Index]), (5, .cells [.i v12.1.Verb, .s v12.1.Name, .s v12.1.Address, .i v12.1.Size, .i v12.1.Notify, .bo v12.1.Last]), (1, .cells [.i a0.Verb, .s a0.Name, .s a0.Address, .i a0.Size, .i a0.Notify, .bo a0.Last])]) rfl rfl (fun s14 x16 hr => ?_) (fun b15 hr => ?_)
   ·
    unfold L_CommandRoundTrips_l1 at hr
    refine rn tk 1 rfl ?_
    refine jb hr (fun j17 => [(1, .ptr 1 0), (3, .s v1.1), (5, .ptr 5 0), (6, .ptr 6 0), (7, .i s14), (43, .bo j17)]) (fun j17 => [(6, .cells [.i v12.2.Code, .i v12.2.Index]), (5, .cells [.i v12.1.Verb, .s v12.1.Name, .s v12.1.Address, .i v12.1.Size, .i v12.1.Notify, .bo v12.1.Last]), (1, .cells [.i a0.Verb, .s a0.Name, .s a0.Address, .i a0.Size, .i a0.Notify, .bo a0.Last])]) (fun j17 hr => ?_) (fun j17 hr => ?_)
    ·
     refine rn tk 6 rfl ?_
     refine bs 38 hr rfl (fun c18 hr => ?_) (fun c18 hr => ?_)
     ·
      refine rn tk 2 rfl ?_
      obtain ⟨v19, h20, hr⟩ := bind_some hr
      refine ug rfl rfl rfl ?_
      refine ws tk h20 rfl rfl rfl rfl ?_
      refine rn tk 3 rfl ?_
      cases hr
      exact jn _ rfl rfl rfl
     ·
      refine rn tk 6 rfl ?_
      cases hr
      exact jn _ rfl rfl rfl
    ·
     refine ac 43 hr rfl (fun c21 hr => ?_) (fun c21 hr => ?_)
     ·
      refine rn tk 9 rfl ?_
      cases hr
      exact atc rfl rfl
     ·
      refine rn tk 2 rfl ?_
      cases hr
      exact ato rfl rfl rfl rfl
   ·
    refine rn tk 14 rfl ?_
    refine al1 hr (fun s22 => [(1, .ptr 1 0), (3, .s v1.1), (5, .ptr 5 0), (6, .ptr 6 0), (7, .i b15), (8, .s s22.1), (9, .i s22.2)]) (fun s22 => [(6, .cells [.i v12.2.Code, .i v12.2.Index]), (5, .cells [.i v12.1.Verb, .s v12.1.Name, .s v12.1.Address, .i v12.1.Size, .i v12.1.Notify, .bo v12.1.Last]), (1, .cells [.i a0.Verb, .s a0.Name, .s a0.Address, .i a0.Size, .i a0.Notify, .bo a0.Last])]) (.exit 2) (fun b23 => [(1, .ptr 1 0), (3, .s v1.1), (5, .ptr 5 0), (6, .ptr 6 0), (7, .i b15), (8, .s b23)]) (fun b23 => [(6, .cells [.i v12.2.Code, .i v12.2.Index]), (5, .cells [.i v12.1.Verb, .s v12.1.Name, .s v12.1.Address, .i v12.1.Size, .i v12.1.Notify, .bo v12.1.Last]), (1, .cells [.i a0.Verb, .s a0.Name, .s a0.Address, .i a0.Size, .i a0.Notify, .bo a0.Last])]) rfl rfl (fun s22 x24 hr => ?_) (fun b23 hr => ?_)
    ·
     unfold L_CommandRoundTrips_l2 at hr
     refine rn tk 8 rfl ?_
     refine ac 48 hr rfl (fun c25 hr => ?_) (fun c25 hr => ?_)
     ·
      refine rn tk 8 rfl ?_
      obtain ⟨v26, h27, hr⟩ := bind_some hr
      refine ws tk h27 rfl rfl rfl rfl ?_
      refine wq (ev_u8sub (a := v26) (b := (32 : UInt8)) rfl rfl) rfl rfl rfl ?_
      refine wz cU ([(v26 - (32 : UInt8))] : List UInt8) tk rfl rfl (fun _ => rfl) rfl rfl rfl ?_
      refine wb tk rfl rfl rfl ?_
      obtain ⟨v28, h29, hr⟩ := bind_some hr
      refine wc h29 rfl rfl rfl ?_
      refine rn tk 9 rfl ?_
      cases hr
      exact atc rfl rfl
     ·
      refine rn tk 2 rfl ?_
      cases hr
      exact ato rfl rfl rfl rfl
    ·
     refine rn tk 5 rfl ?_
     obtain ⟨v30, h31, hr⟩ := bind_some hr
     refine wc h31 rfl rfl rfl ?_
     refine rn tk 2 rfl ?_
     obtain ⟨v32, h33, hr⟩ := bind_some hr
     refine wscL tk h33 rfl rfl rfl rfl ?_
     obtain ⟨v34, h35, hr⟩ := bind_some hr
     refine wc h35 rfl rfl rfl ?_
     obtain ⟨v36, h37, hr⟩ := bind_some hr
     refine wc h37 rfl rfl rfl ?_
     obtain ⟨v38, h39, hr⟩ := bind_some hr
     refine cl (command_Parse_run _ _ h39) rfl rfl ?_
     refine rn tk 9 rfl ?_
     refine jb hr (fun j40 => [(2, .bo j40)]) (fun j40 => []) (fun j40 hr => ?_) (fun j40 hr => ?_)
     ·
      refine rn tk 5 rfl ?_
      refine bs 73 hr rfl (fun c41 hr => ?_) (fun c41 hr => ?_)
      ·
       refine rn tk 5 rfl ?_
       refine bs 78 hr rfl (fun c42 hr => ?_) (fun c42 hr => ?_)
       ·
        refine rn tk 2 rfl ?_
        refine ug rfl rfl rfl ?_
        refine wq (ev_structeq rfl rfl ty_api_Command cmp_api_Command (.int rfl (by decide) ty_int (.str rfl (by decide) ty_string (.str rfl (by decide) ty_string (.int rfl (by decide) ty_int (.int rfl (by decide) ty_int (.bool rfl (by decide) ty_bool .nil))))))) rfl rfl rfl ?_
        refine rn tk 2 rfl ?_
        refine bs 83 hr rfl (fun c43 hr => ?_) (fun c43 hr => ?_)
        ·
         refine rn tk 2 rfl ?_
         refine ug rfl rfl rfl ?_
         refine wq (ev_structeq rfl rfl ty_api_Command cmp_api_Command (.int rfl (by decide) ty_int (.str rfl (by decide) ty_string (.str rfl (by decide) ty_string (.int rfl (by decide) ty_int (.int rfl (by decide) ty_int (.bool rfl (by decide) ty_bool .nil))))))) rfl rfl rfl ?_
         refine rn tk 3 rfl ?_
         cases hr
         exact jn _ rfl rfl rfl
        ·
         refine rn tk 6 rfl ?_
         cases hr
         exact jn _ rfl rfl rfl
       ·
        refine rn tk 11 rfl ?_
        cases hr
        exact jn _ rfl rfl rfl
      ·
       refine rn tk 16 rfl ?_
       cases hr
       exact jn _ rfl rfl rfl
     ·
      refine rn tk 1 rfl ?_
      cases hr
      exact kr tk (.inr rfl) rfl rfl
end Go.Proofs.YtgbahimpdoahbaaDoor

namespace Go.Proofs.YtgbahimpdoahbaaDoor.commandRoundTrips
open Go.ChangeShapes Go.WideShapes Go.ChangeAt Go.RowKit
set_option linter.unusedVariables false
set_option maxRecDepth 100000

theorem contract (H : Type) (enc : TypeId × Value → H) (W : World) (base : Nat) (args : Array Value) (ds gs : List (DataW H)) (before : List MemPlace)
    (hval : ∀ (j : Nat) t v, Tryd.f3.params[j]? = some t → args[j]? = some v → Value.okWide Tryd.prog W .any base t v)
    (hW : DataW.Whole enc Tryd.prog Tryd.f3.params.toList Rows.commandRoundTripsSpec.vars false W args.toList ds gs before) (hk : Rows.uptoSmall H (ds ++ gs) = true) (hgl : Gl (gAll W)) :
    Calls Tryd.prog 3 args W fun e W' => ∃ v, e = .returned v ∧ Rows.commandRoundTripsSpec.post enc Tryd.prog Tryd.f3 false true false false W args v W' := by
  have hW' := hW
  obtain ⟨p, q, hA0, hV, rfl, hfz, hnd⟩ := hW
  have hA : DataW.TrodAll enc Tryd.prog W 0 (fun _ => true) true Tryd.f3.params.toList args.toList ds p := hA0
  rw [Tryd.params3] at hA hval
  obtain ⟨v0, vs0, d0, ds0, p0, q0, hargs, rfl, rfl, h0, r0⟩ := trodAll_cons hA
  obtain ⟨rfl, rfl, rfl⟩ := trodAll_nil r0
  obtain rfl : args = #[v0] := by cases args; simp_all
  obtain ⟨rfl, rfl⟩ := trodVars_none hV
  obtain ⟨a0, e0, o0, k0⟩ := arg_agg op_api_Command (by obtain ⟨cs, h, _⟩ := okWide_struct ty_api_Command.u (hval 0 _ v0 rfl rfl); exact ⟨cs, h⟩) h0
  have hk2 := of_decide_eq_true hk
  simp only [List.append_nil, Rows.uptoBulkAll] at hk2
  have ht := L_CommandRoundTrips_true a0 o0 (by (try dsimp only); omega)
  have key : Calls Tryd.prog 3 #[v0] W fun e W' => e = .returned (.bool true) ∧ Below W.heap.size W W' := calls_of_run (L_CommandRoundTrips_run a0 true ht) hgl (relArgs_of (.cons e0 .nil))
  refine key.mono fun e W' ⟨he, hb⟩ => ⟨_, he, ?_⟩
  exact post_true laidOut (by kernel_rfl) Tryd.underlying4 (by kernel_rfl) rfl rfl hW' hb

/-- a world for the witness -/
noncomputable def wit (os : Os) : World := World.doorLaid Tryd.prog 62 os
theorem reads (os : Os) {H : Type} (enc : TypeId × Value → H) : ∃ places, DataW.whole enc Tryd.prog ((wit os).forCall (fun _ _ => 0) ⟨#[], #[.agg #[.int .i64 0, .string ⟨#[]⟩, .string ⟨#[]⟩, .int .i64 0, .int .i64 0, .bool false]], []⟩).memory Tryd.f3.params.toList (Rows.OpenSpec.upto Rows.commandRoundTripsSpec).vars false (#[.agg #[.int .i64 0, .string ⟨#[]⟩, .string ⟨#[]⟩, .int .i64 0, .int .i64 0, .bool false]] : Array Value).toList 8 = some ([.agg [.lit (.int .i64 0), .lit (.string []), .lit (.string []), .lit (.int .i64 0), .lit (.int .i64 0), .lit (.bool false)]], [], places) :=
  ⟨[], by kernel_rfl⟩
theorem lifted (os : Os) (started : os.Started) (H : Type) (enc : TypeId × Value → H) (F : Stop.Interp) :
    ReturnsInHanded {} Tryd.checked os 3 .any ((Rows.OpenSpec.upto Rows.commandRoundTripsSpec).preRow enc Tryd.prog Tryd.f3 Rows.commandRoundTripsUptoRow.domain false Rows.commandRoundTripsUptoRow.laid) (((Rows.OpenSpec.upto Rows.commandRoundTripsSpec).at F).post enc Tryd.prog Tryd.f3 false true false false) := by
  obtain ⟨places, hx⟩ := reads os enc
  refine returnsInHanded_of_row (C := Tryd.checked) (s := Rows.OpenSpec.upto Rows.commandRoundTripsSpec) own started (by kernel_rfl) Tryd.func3
    (witness_row_atRef (enc := enc) (C := Tryd.checked) false (wit os) #[.agg #[.int .i64 0, .string ⟨#[]⟩, .string ⟨#[]⟩, .int .i64 0, .int .i64 0, .bool false]] rfl (by kernel_rfl) (by kernel_rfl) (by kernel_rfl)
      (OpenSpec.preRow_of_cond 8 hx (by kernel_rfl) (fun k hk => by cases hk; kernel_rfl) (by kernel_rfl) (laidMet_of_run' 8 (by kernel_rfl) (by kernel_rfl)))) ?_
  intro W base args ds gs before hval hW _ hk _ hL hsh _
  exact contract H enc W base args ds gs before hval hW (hk _ rfl) (gl_of_laid (rest := Rows.commandRoundTripsUptoRow.laid.drop 3) hsh (by kernel_rfl) hL (fun hm => gi_of_laid hm.tail.tail.tail.tail))

theorem j0 : jf0 Tryd.pinned.checked.prog 3 Tryd.f3 (Rows.OpenSpec.upto Rows.commandRoundTripsSpec).bare Rows.commandRoundTripsUptoRow = true := by kernel_rfl
theorem j1 : jf1 Tryd.pinned.checked.prog 3 Tryd.f3 (Rows.OpenSpec.upto Rows.commandRoundTripsSpec).bare Rows.commandRoundTripsUptoRow = true := by kernel_rfl
theorem j2 : jf2 Tryd.pinned.checked.prog 3 Tryd.f3 (Rows.OpenSpec.upto Rows.commandRoundTripsSpec).bare Rows.commandRoundTripsUptoRow = true := by kernel_rfl
theorem j3 : jf3 Tryd.pinned.checked.prog 3 Tryd.f3 (Rows.OpenSpec.upto Rows.commandRoundTripsSpec).bare Rows.commandRoundTripsUptoRow = true := by kernel_rfl
theorem j4 : jf4 Tryd.pinned.checked.prog 3 Tryd.f3 (Rows.OpenSpec.upto Rows.commandRoundTripsSpec).bare Rows.commandRoundTripsUptoRow = true := by kernel_rfl
theorem j5 : jf5 Tryd.pinned.checked.prog 3 Tryd.f3 (Rows.OpenSpec.upto Rows.commandRoundTripsSpec).bare Rows.commandRoundTripsUptoRow = true := by kernel_rfl
theorem j6 : jf6 Tryd.pinned.checked.prog 3 Tryd.f3 (Rows.OpenSpec.upto Rows.commandRoundTripsSpec).bare Rows.commandRoundTripsUptoRow = true := by kernel_rfl
theorem j7 : jf7 Tryd.pinned.checked.prog 3 Tryd.f3 (Rows.OpenSpec.upto Rows.commandRoundTripsSpec).bare Rows.commandRoundTripsUptoRow = true := by kernel_rfl
theorem j8 : jf8 Tryd.pinned.checked.prog 3 Tryd.f3 (Rows.OpenSpec.upto Rows.commandRoundTripsSpec).bare Rows.commandRoundTripsUptoRow = true := by kernel_rfl
theorem j9 : jf9 Tryd.pinned.checked.prog 3 Tryd.f3 (Rows.OpenSpec.upto Rows.commandRoundTripsSpec).bare Rows.commandRoundTripsUptoRow = true := by kernel_rfl
theorem j10 : jf10 Tryd.pinned.checked.prog 3 Tryd.f3 (Rows.OpenSpec.upto Rows.commandRoundTripsSpec).bare Rows.commandRoundTripsUptoRow = true := by kernel_rfl
theorem j11 : jf11 Tryd.pinned.checked.prog 3 Tryd.f3 (Rows.OpenSpec.upto Rows.commandRoundTripsSpec).bare Rows.commandRoundTripsUptoRow = true := by kernel_rfl
theorem j12 : jf12 Tryd.pinned.checked.prog 3 Tryd.f3 (Rows.OpenSpec.upto Rows.commandRoundTripsSpec).bare Rows.commandRoundTripsUptoRow = true := by kernel_rfl
theorem j13 : jf13 Tryd.pinned.checked.prog 3 Tryd.f3 (Rows.OpenSpec.upto Rows.commandRoundTripsSpec).bare Rows.commandRoundTripsUptoRow = true := by kernel_rfl
theorem j14 : jf14 Tryd.pinned.checked.prog 3 Tryd.f3 (Rows.OpenSpec.upto Rows.commandRoundTripsSpec).bare Rows.commandRoundTripsUptoRow = true := by kernel_rfl
theorem j15 : jf15 Tryd.pinned.checked.prog 3 Tryd.f3 (Rows.OpenSpec.upto Rows.commandRoundTripsSpec).bare Rows.commandRoundTripsUptoRow = true := by kernel_rfl
theorem j16 : jf16 Tryd.pinned.checked.prog 3 Tryd.f3 (Rows.OpenSpec.upto Rows.commandRoundTripsSpec).bare Rows.commandRoundTripsUptoRow = true := by kernel_rfl
theorem j17 : jf17 Tryd.pinned.checked.prog 3 Tryd.f3 (Rows.OpenSpec.upto Rows.commandRoundTripsSpec).bare Rows.commandRoundTripsUptoRow = true := by kernel_rfl
theorem j18 : jf18 Tryd.pinned.checked.prog 3 Tryd.f3 (Rows.OpenSpec.upto Rows.commandRoundTripsSpec).bare Rows.commandRoundTripsUptoRow = true := by kernel_rfl
theorem j19 : jf19 Tryd.pinned.checked.prog 3 Tryd.f3 (Rows.OpenSpec.upto Rows.commandRoundTripsSpec).bare Rows.commandRoundTripsUptoRow = true := by kernel_rfl
theorem j20 : jf20 Tryd.pinned.checked.prog 3 Tryd.f3 (Rows.OpenSpec.upto Rows.commandRoundTripsSpec).bare Rows.commandRoundTripsUptoRow = true := by kernel_rfl
theorem j21 : jf21 Tryd.pinned.checked.prog 3 Tryd.f3 (Rows.OpenSpec.upto Rows.commandRoundTripsSpec).bare Rows.commandRoundTripsUptoRow = true := by kernel_rfl
theorem j22 : jf22 Tryd.pinned.checked.prog 3 Tryd.f3 (Rows.OpenSpec.upto Rows.commandRoundTripsSpec).bare Rows.commandRoundTripsUptoRow = true := by kernel_rfl
theorem j23 : jf23 Tryd.pinned.checked.prog 3 Tryd.f3 (Rows.OpenSpec.upto Rows.commandRoundTripsSpec).bare Rows.commandRoundTripsUptoRow = true := by kernel_rfl
theorem j24 : jf24 Tryd.pinned.checked.prog 3 Tryd.f3 (Rows.OpenSpec.upto Rows.commandRoundTripsSpec).bare Rows.commandRoundTripsUptoRow = true := by kernel_rfl
theorem j25 : jf25 Tryd.pinned.checked.prog 3 Tryd.f3 (Rows.OpenSpec.upto Rows.commandRoundTripsSpec).bare Rows.commandRoundTripsUptoRow = true := by kernel_rfl
theorem j26 : jf26 Tryd.pinned.checked.prog 3 Tryd.f3 (Rows.OpenSpec.upto Rows.commandRoundTripsSpec).bare Rows.commandRoundTripsUptoRow = true := by kernel_rfl
theorem j27 : jf27 Tryd.pinned.checked.prog 3 Tryd.f3 (Rows.OpenSpec.upto Rows.commandRoundTripsSpec).bare Rows.commandRoundTripsUptoRow = true := by kernel_rfl
theorem j28 : jf28 Tryd.pinned.checked.prog 3 Tryd.f3 (Rows.OpenSpec.upto Rows.commandRoundTripsSpec).bare Rows.commandRoundTripsUptoRow = true := by kernel_rfl
theorem j29 : jf29 Tryd.pinned.checked.prog 3 Tryd.f3 (Rows.OpenSpec.upto Rows.commandRoundTripsSpec).bare Rows.commandRoundTripsUptoRow = true := by kernel_rfl
theorem j30 : jf30 Tryd.pinned.checked.prog 3 Tryd.f3 (Rows.OpenSpec.upto Rows.commandRoundTripsSpec).bare Rows.commandRoundTripsUptoRow = true := by kernel_rfl
theorem j31 : jf31 Tryd.pinned.checked.prog 3 Tryd.f3 (Rows.OpenSpec.upto Rows.commandRoundTripsSpec).bare Rows.commandRoundTripsUptoRow = true := by kernel_rfl
theorem said : Rows.commandRoundTripsUptoRow.holds Tryd.pinned (Rows.OpenSpec.upto Rows.commandRoundTripsSpec) :=
  OpenClaim.holds_of_cond 3 Tryd.f3 rfl rfl rfl rfl rfl rfl rfl ⟨rfl, rfl, rfl, rfl, rfl⟩ rfl rfl rfl rfl rfl (by kernel_rfl) Tryd.func3 (joined_of j0 j1 j2 j3 j4 j5 j6 j7 j8 j9 j10 j11 j12 j13 j14 j15 j16 j17 j18 j19 j20 j21 j22 j23 j24 j25 j26 j27 j28 j29 j30 j31)
    (of_decide_eq_true (by kernel_rfl)) (by unfold Func.isWrapper; first | (rw [if_pos (by decide +kernel)]; kernel_rfl) | (rw [if_neg (by decide +kernel)]; exact ⟨rfl, rfl⟩))
    (fun os started H enc _ F => by rw [OpenClaim.pre_eq_preRow]; exact lifted os started H enc F)

theorem plain (f : FuncId) (fn : Func) (hf : Tryd.pinned.checked.prog.funcNamed "posthouse/posthouselaw3.CommandRoundTrips" = some f) (hfn : Tryd.pinned.checked.prog.funcs[f]? = some fn) :
    true = Tryd.pinned.checked.prog.looks [] ∧ ∀ (j : Nat) t, fn.params[j]? = some t → Tryd.pinned.checked.prog.wantsStandIn t = false := by
  obtain rfl : f = 3 := Option.some.inj ((show Tryd.prog.funcNamed "posthouse/posthouselaw3.CommandRoundTrips" = some 3 by kernel_rfl).symm.trans hf) |>.symm
  obtain rfl : fn = Tryd.f3 := (Option.some.inj (Tryd.func3.symm.trans hfn)).symm
  refine ⟨by kernel_rfl, fun j t ht => ?_⟩
  rw [Tryd.params3] at ht
  have hm := Array.mem_of_getElem? ht
  simp only [List.mem_toArray, List.mem_cons, List.not_mem_nil, or_false] at hm
  rcases hm with rfl
  · exact (show Tryd.prog.wantsStandIn 23 = false by kernel_rfl)
theorem proved : Rows.CommandRoundTripsUptoCardSaid :=
  Claim7.holds_tied_plain_at .later [] _ _ _ _ said (fun _ h => by cases h) (by kernel_rfl) (fun _ h => by cases h) commandRoundTripsUpto_row_tie rfl ⟨rfl, rfl⟩ (by kernel_rfl) rfl plain (by kernel_rfl)
#print axioms proved
end Go.Proofs.YtgbahimpdoahbaaDoor.commandRoundTrips
