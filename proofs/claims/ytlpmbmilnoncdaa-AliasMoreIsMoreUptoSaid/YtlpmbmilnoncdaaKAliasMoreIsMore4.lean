/- Part 4 of the proof of the law AliasMoreIsMore: what it needs. -/
import Derived.Test.YtlpmbmilnoncdaaKAliasMoreIsMore3
import Derived.Test.YtlpmbmilnoncdaaShelf
/- A function of the program computes what its Lean function does. Written by program. -/
namespace Go.Proofs.Ytlpmbmilnoncdaa
open Go.RowKit
set_option maxRecDepth 100000
set_option maxHeartbeats 40000000
set_option linter.unusedVariables false
theorem R_Strings_run (a0 : List Str) (a1 : List Str) (r : Bool) (hr : R_Strings a0 a1 = some r) : Run Try.prog 23 [.l cS a0, .l cS a1] (.bo r) := by
  unfold R_Strings at hr
  refine run_of_awp (fn := Try.f23) ⟨Try.func23, rfl, by kernel_rfl⟩ rfl (fun _ => rfl) fun g0 hg => ?_
  refine awp_seq ?_
  refine awp_region ?_
  refine awpl_op rfl (opTo_q (d := 4) rfl rfl ev_assign) ?_
  refine awpl_nil ?_
  refine kthen_normal ?_
  refine awp_seq ?_
  refine awp_seq ?_
  refine awp_region ?_
  refine awpl_op rfl (opTo_q (d := 6) rfl rfl ev_move) ?_
  refine awpl_op rfl (opTo_q (d := 7) rfl rfl (ev_llen (f := cS) rfl ty_s_string.u)) ?_
  refine awpl_op rfl (opTo_q (d := 8) rfl rfl ev_move) ?_
  refine awpl_op rfl (opTo_q (d := 9) rfl rfl (ev_llen (f := cS) rfl ty_s_string.u)) ?_
  refine awpl_op rfl (opTo_q (d := 10) rfl rfl (ev_neq rfl rfl)) ?_
  refine awpl_nil ?_
  refine kthen_normal ?_
  refine awp_cond rfl (fun c1 => ?_) (fun c1 => ?_)
  · replace hr := cond_t c1 hr
    refine awp_seq ?_
    refine awp_region ?_
    refine awpl_op rfl (opTo_q (d := 4) rfl rfl ev_assign) ?_
    refine awpl_nil ?_
    refine kthen_normal ?_
    refine awp_ret ?_
    refine kthen_ret ?_
    cases hr
    exact kret' rfl (.cons (res_tmp rfl) .nil) rfl
  · replace hr := cond_f c1 hr
    refine awp_skip ?_
    refine kthen_normal ?_
    refine awp_seq ?_
    refine awp_seq ?_
    refine awp_region ?_
    refine awpl_op rfl (opTo_q (d := 5) rfl rfl ev_assign) ?_
    refine awpl_nil ?_
    refine kthen_normal ?_
    refine awp_block ?_
    obtain ⟨o5, hl, hr⟩ := bind_some hr
    refine awp_loop (R_Strings_l1 a0 a1) (fun s2 => [(0, .l cS a0), (1, .l cS a1), (5, .i s2)]) (fun s2 => []) (fun o => match o with | .inl b3 => At (.exit 0) [] [] | .inr b4 => At .ret [(4, .bo b4)] []) ?_ 0 hl (frLe_cons rfl (frLe_cons rfl (frLe_cons rfl frLe_nil))) stoLe_nil ?_
    · intro s2 x6 hr
      unfold R_Strings_l1 at hr
      refine awp_seq ?_
      refine awp_seq ?_
      refine awp_region ?_
      refine awpl_op rfl (opTo_q (d := 11) rfl rfl ev_move) ?_
      refine awpl_op rfl (opTo_q (d := 12) rfl rfl ev_move) ?_
      refine awpl_op rfl (opTo_q (d := 13) rfl rfl (ev_llen (f := cS) rfl ty_s_string.u)) ?_
      refine awpl_op rfl (opTo_q (d := 14) rfl rfl (ev_lss rfl rfl)) ?_
      refine awpl_nil ?_
      refine kthen_normal ?_
      refine awp_cond rfl (fun c7 => ?_) (fun c7 => ?_)
      · replace hr := cond_t c7 hr
        refine awp_skip ?_
        refine kthen_normal ?_
        refine awp_seq ?_
        refine awp_block ?_
        refine awp_seq ?_
        obtain ⟨v8, h9, hr⟩ := bind_some hr
        obtain ⟨v10, h11, hr⟩ := bind_some hr
        refine awp_drawn 8 [(24, .s v10), (23, .ep [pS v10]), (22, .i s2), (21, .l cS a1), (20, .s v8), (19, .ep [pS v8]), (18, .i s2), (17, .l cS a0)] mixed (by kernel_rfl) rfl rfl (.run (.plain rfl) (opG_q ev_move) (.run (.plain rfl) (opG_q ev_move) (.run (.plain rfl) (opG_q (ev_idx (f := cS) rfl rfl ty_s_string ty_string rfl h9)) (.run (.plain rfl) (opG_q (ev_load_ep rfl ty_string rfl rfl)) (.run (.plain rfl) (opG_q ev_move) (.run (.plain rfl) (opG_q ev_move) (.run (.plain rfl) (opG_q (ev_idx (f := cS) rfl rfl ty_s_string ty_string rfl h11)) (.run (.plain rfl) (opG_q (ev_load_ep rfl ty_string rfl rfl)) .nil)))))))) rfl ?_
        refine awpl_op rfl (opTo_q (d := 25) rfl rfl (ev_sneq (a := v8) (b := v10) rfl rfl)) ?_
        refine awpl_nil ?_
        refine kthen_normal ?_
        refine awp_cond rfl (fun c12 => ?_) (fun c12 => ?_)
        · replace hr := cond_t c12 hr
          refine awp_seq ?_
          refine awp_region ?_
          refine awpl_op rfl (opTo_q (d := 4) rfl rfl ev_assign) ?_
          refine awpl_nil ?_
          refine kthen_normal ?_
          refine awp_ret ?_
          refine kblock_ret ?_
          refine kthen_ret ?_
          cases hr
          exact ⟨by simp, rfl, (frLe_cons rfl frLe_nil), stoLe_nil⟩
        · replace hr := cond_f c12 hr
          refine awp_skip ?_
          refine kblock_normal ?_
          refine kthen_normal ?_
          refine awp_region ?_
          refine awpl_op rfl (opTo_q (d := 15) rfl rfl ev_move) ?_
          refine awpl_op rfl (opTo_q (d := 16) rfl rfl (ev_add rfl rfl)) ?_
          refine awpl_op rfl (opTo_q (d := 5) rfl rfl ev_assign) ?_
          refine awpl_nil ?_
          cases hr
          exact ⟨rfl, (frLe_cons rfl (frLe_cons rfl (frLe_cons rfl frLe_nil))), stoLe_nil⟩
      · replace hr := cond_f c7 hr
        refine awp_exit ?_
        refine kthen_exit ?_
        cases hr
        exact ⟨by simp, rfl, frLe_nil, stoLe_nil⟩
    · intro e fr2 st2 hq
      rcases o5 with b3 | b4
      · obtain ⟨rfl, hf, hs⟩ := hq
        refine kblock_exit ?_
        refine kthen_normal ?_
        refine awp_le hf hs ?_
        refine awp_seq ?_
        refine awp_region ?_
        refine awpl_op rfl (opTo_q (d := 4) rfl rfl ev_assign) ?_
        refine awpl_nil ?_
        refine kthen_normal ?_
        refine awp_ret ?_
        cases hr
        exact kret' rfl (.cons (res_tmp rfl) .nil) rfl
      · obtain ⟨rfl, hf, hs⟩ := hq
        refine kblock_ret ?_
        refine kthen_ret ?_
        cases hr
        exact kret' rfl (.cons (res1_le hf hs (res_tmp rfl)) .nil) rfl
end Go.Proofs.Ytlpmbmilnoncdaa

/- A function of the program computes what its Lean function does. Written by program. -/
namespace Go.Proofs.Ytlpmbmilnoncdaa
open Go.RowKit
set_option maxRecDepth 100000
set_option maxHeartbeats 40000000
set_option linter.unusedVariables false
theorem basic_Fault_run (a0 : Int) (a1 : Int) (r : TFault) (hr : basic_Fault a0 a1 = some r) : Run Try.prog 37 [.i a0, .i a1] (.agg [.i r.Code, .i r.Index]) := by
  unfold basic_Fault at hr
  refine run_of_awp (fn := Try.f37) ⟨Try.func37, rfl, by kernel_rfl⟩ rfl (fun _ => rfl) fun g0 hg => ?_
  refine awp_seq ?_
  refine awp_region ?_
  refine awpl_op rfl (opTo_alloc (k := 4) 4 rfl ty_api_Fault (.inr ⟨rfl, rfl⟩) rfl rfl rfl) ?_
  refine awpl_nil ?_
  refine kthen_normal ?_
  refine awp_seq ?_
  refine awp_region ?_
  refine awpl_op rfl (opTo_q (d := 5) rfl rfl ev_move) ?_
  refine awpl_op rfl (opTo_q (d := 6) rfl rfl ev_move) ?_
  refine awpl_op rfl (opTo_q (d := 7) rfl rfl (ev_build ty_api_Fault pl_api_Fault (.inr ⟨rfl, rfl⟩) rfl)) ?_
  refine awpl_op rfl (opTo_store rfl rfl rfl ty_api_Fault rfl rfl) ?_
  refine awpl_nil ?_
  refine kthen_normal ?_
  refine awp_ret ?_
  cases hr
  exact kret' rfl (.cons (res_cellN rfl rfl ty_api_Fault rfl rfl) .nil) rfl
end Go.Proofs.Ytlpmbmilnoncdaa

/- A function of the program computes what its Lean function does. Written by program. -/
namespace Go.Proofs.Ytlpmbmilnoncdaa
open Go.RowKit
set_option maxRecDepth 100000
set_option maxHeartbeats 40000000
set_option linter.unusedVariables false
theorem basic_None_run  (r : TFault) (hr : basic_None = some r) : Run Try.prog 38 [] (.agg [.i r.Code, .i r.Index]) := by
  unfold basic_None at hr
  refine run_of_awp (fn := Try.f38) ⟨Try.func38, rfl, by kernel_rfl⟩ rfl (fun _ => rfl) fun g0 hg => ?_
  refine awp_seq ?_
  refine awp_region ?_
  refine awpl_op rfl (opTo_alloc (k := 0) 0 rfl ty_api_Fault (.inr ⟨rfl, rfl⟩) rfl rfl rfl) ?_
  refine awpl_nil ?_
  refine kthen_normal ?_
  refine awp_seq ?_
  refine awp_region ?_
  refine awpl_op rfl (opTo_q (d := 1) rfl rfl (ev_build ty_api_Fault pl_api_Fault (.inr ⟨rfl, rfl⟩) rfl)) ?_
  refine awpl_op rfl (opTo_store rfl rfl rfl ty_api_Fault rfl rfl) ?_
  refine awpl_nil ?_
  refine kthen_normal ?_
  refine awp_ret ?_
  cases hr
  exact kret' rfl (.cons (res_cellN rfl rfl ty_api_Fault rfl rfl) .nil) rfl
end Go.Proofs.Ytlpmbmilnoncdaa

/- Library functions compute what their Lean functions do. -/
namespace Go.Proofs.Ytlpmbmilnoncdaa
open Go.RowKit
set_option maxRecDepth 100000
def nums (l : List UInt8) : List Int := l.map fun c => (c.toNat : Int)
theorem nums_bytes (l : List UInt8) : Lib.bytesOf (nums l) = l := by simp [Lib.bytesOf, nums, Function.comp_def]
theorem nums_range (l : List UInt8) : ∀ x ∈ nums l, 0 ≤ x ∧ x < 256 := by
  intro x hx
  obtain ⟨c, _, rfl⟩ := List.mem_map.1 hx
  have := c.toNat_lt
  omega
theorem nums_getD (l : List UInt8) (i : Nat) (h : i < l.length) : (nums l).getD i 0 = (l[i].toNat : Int) := by simp [nums, h]
/-- bytes, where they lie -/
theorem bytes_cells {g : G} {l : List UInt8} {v : Value} (h : Rel g (.l cU l) v) : ∃ ad cap, v = .slice ad l.length cap ∧ l.length ≤ cap ∧ (l ≠ [] → ∃ b off, ad = some ⟨b, off, none⟩ ∧ ∀ i, i < l.length → g.w.cell? ((⟨b, off, none⟩ : Addr).add i) = some (.int .u8 ((nums l).getD i 0))) := by
  cases h with
  | pv h =>
    generalize hE : l.map cU = elems at h
    have hEl : elems.length = l.length := by rw [← hE]; simp
    unfold pL at h
    rw [hE] at h
    cases h with
    | @sl _ _ a cap size b off val hn h0 hc hz ha hu hcell h =>
      refine ⟨a, cap, by rw [hEl], by omega, fun hne => ⟨b, off, ha (by rw [← hE]; simpa using hne), fun i hi => ?_⟩⟩
      have hget : elems[i]? = some (cU l[i]) := by rw [← hE]; simp [hi]
      have hs1 : size = 1 := by
        have := hz _ (List.mem_of_getElem? hget)
        simpa [cU] using this.symm
      subst hs1
      rw [addr_add, hcell i (by omega), nums_getD l i hi]
      have := h i 0 _ (.b (.int .u8 (l[i].toNat : Int))) hget rfl
      simp only [Nat.mul_one, Nat.add_zero] at this
      have e := rel_b (g := g) (.pv this)
      rw [e]
theorem old_drewN (g : G) (q : Nat) : Old (fun _ => False) g ⟨g.w.drewN q, g.u, g.loc⟩ :=
  ⟨rfl, rfl, rfl, ⟨Nat.le_refl _, fun _ _ => Nat.le_refl _, fun _ _ _ _ => rfl, fun _ h => h⟩, fun _ _ _ => ⟨rfl, rfl⟩⟩
theorem bytes_Index_run (a b : List UInt8) (r : Int) (hr : bytes_Index a b = some r) : Run Try.prog 58 [.l cU a, .l cU b] (.i r) := by
  unfold bytes_Index at hr
  split at hr
  case isFalse => cases hr
  rename_i hlen
  cases hr
  refine ⟨⟨_, _, ⟨Try.func58, rfl, by kernel_rfl⟩⟩, fun g vs hw hg ha => ?_⟩
  obtain ⟨hsz, hrel⟩ := ha
  obtain ⟨l⟩ := vs
  match l, hsz with
  | [x, y], _ =>
    have h0 : Rel g (.l cU a) x := hrel 0 _ rfl
    have h1 : Rel g (.l cU b) y := hrel 1 _ rfl
    obtain ⟨ad, cap, rfl, hcap, hcell⟩ := bytes_cells h0
    obtain ⟨ad2, cap2, rfl, hcap2, hcell2⟩ := bytes_cells h1
    have hb2 := hlen.2
    obtain ⟨b2, o2, rfl, hc2⟩ := hcell2 (by rintro rfl; simp at hb2)
    refine callsIn_wide.2 ?_
    suffices hs : Calls Try.prog 58 #[.slice ad a.length cap, .slice (some ⟨b2, o2, none⟩) b.length cap2] g.w fun e w' => e = .returned (.int .i64 (Lib.index a b)) ∧ ∃ q, w' = g.w.drewN q by
      refine hs.mono ?_
      rintro e w' ⟨rfl, q, rfl⟩
      exact ⟨⟨g.w.drewN q, g.u, g.loc⟩, _, rfl, rfl, old_drewN g q, hw, rfl, .pv (.b rfl)⟩
    by_cases hs : a.length < 2
    · have hi : Lib.index a b = -1 := by
        match a, b, hs, hb2 with
        | [], [p, q], _, _ => rfl
        | [c], [p, q], _, _ => simp [Lib.index]
      rw [hi]
      exact (Try.bytes_Index_longer ad (some ⟨b2, o2, none⟩) a.length cap b.length cap2 g.w (by omega) (by omega) (by omega)).mono fun e w' ⟨h1, h2⟩ => ⟨h1, 0, h2⟩
    · obtain ⟨b1, o1, rfl, hc1⟩ := hcell (by rintro rfl; simp at hs)
      obtain ⟨_, _, m, hm⟩ := hg (0, 0) (by simp [globs])
      have := Try.bytes_Index_at ⟨b1, o1, none⟩ ⟨b2, o2, none⟩ a.length cap b.length cap2 (nums a) (nums b) m g.w (by simp [nums]) (by simp [nums]) (nums_range a) (nums_range b) hc1 hc2 hcap hlen.1 (by omega) hm
      rw [nums_bytes, nums_bytes] at this
      exact this
theorem str_arg {g : G} {s : Str} {v : Value} (h : Rel g (.s s) v) : v = .string (strB s) := rel_b h
theorem strings_IndexByte_run (s : Str) (c : UInt8) (r : Int) (hr : strings_IndexByte s c = some r) : Run Try.prog 75 [.s s, .u8 c] (.i r) := by
  unfold strings_IndexByte at hr
  cases hr
  refine ⟨⟨_, _, ⟨Try.func75, rfl, by kernel_rfl⟩⟩, fun g vs hw hg ha => ?_⟩
  obtain ⟨hsz, hrel⟩ := ha
  obtain ⟨l⟩ := vs
  match l, hsz with
  | [x, y], _ =>
    obtain rfl := str_arg (hrel 0 _ rfl)
    have e2 : y = .int .u8 (c.toNat : Int) := rel_b (hrel 1 _ rfl)
    subst e2
    refine callsIn_wide.2 ((Try.strings_IndexByte (strB s) (c.toNat : Int) g.w).mono ?_)
    rintro e w' ⟨rfl, rfl⟩
    refine ⟨g, _, rfl, rfl, Old.refl _ g, hw, rfl, ?_⟩
    simp [strB]
    exact .pv (.b rfl)
theorem strings_Contains_run (s t : Str) (r : Bool) (hr : strings_Contains s t = some r) : Run Try.prog 85 [.s s, .s t] (.bo r) := by
  unfold strings_Contains at hr
  split at hr
  case isFalse => cases hr
  rename_i hlen
  cases hr
  refine ⟨⟨_, _, ⟨Try.func85, rfl, by kernel_rfl⟩⟩, fun g vs hw hg ha => ?_⟩
  obtain ⟨hsz, hrel⟩ := ha
  obtain ⟨l⟩ := vs
  match l, hsz with
  | [x, y], _ =>
    obtain rfl := str_arg (hrel 0 _ rfl)
    obtain rfl := str_arg (hrel 1 _ rfl)
    obtain ⟨_, _, m, hm⟩ := hg (0, 0) (by simp [globs])
    refine callsIn_wide.2 ((Try.strings_Contains (strB s) (strB t) m g.w (by rw [strB_size]; exact hlen) hm).mono ?_)
    rintro e w' ⟨rfl, rfl⟩
    exact ⟨g, _, rfl, rfl, Old.refl _ g, hw, rfl, .pv (.b rfl)⟩
theorem strings_Cut_run (s t : Str) (r : Str × Str × Bool) (hr : strings_Cut s t = some r) : Run Try.prog 72 [.s s, .s t] (.tup [.s r.1, .s r.2.1, .bo r.2.2]) := by
  unfold strings_Cut at hr
  split at hr
  case isFalse => cases hr
  rename_i hlen
  cases hr
  refine ⟨⟨_, _, ⟨Try.func72, rfl, by kernel_rfl⟩⟩, fun g vs hw hg ha => ?_⟩
  obtain ⟨hsz, hrel⟩ := ha
  obtain ⟨l⟩ := vs
  match l, hsz with
  | [x, y], _ =>
    obtain rfl := str_arg (hrel 0 _ rfl)
    obtain rfl := str_arg (hrel 1 _ rfl)
    obtain ⟨_, _, m, hm⟩ := hg (0, 0) (by simp [globs])
    refine callsIn_wide.2 ((Try.strings_Cut (strB s) (strB t) m g.w (by rw [strB_size]; exact hlen) hm).mono ?_)
    rintro e w' ⟨rfl, q, rfl⟩
    refine ⟨⟨g.w.drewN q, g.u, g.loc⟩, _, rfl, rfl, old_drewN g q, hw, rfl, .tup rfl fun i c hi => ?_⟩
    match i, hi with
    | 0, rfl => exact .pv (.b rfl)
    | 1, rfl => exact .pv (.b rfl)
    | 2, rfl => exact .pv (.b rfl)
end Go.Proofs.Ytlpmbmilnoncdaa

/- A function of the program computes what its Lean function does. Written by program. -/
namespace Go.Proofs.Ytlpmbmilnoncdaa
open Go.RowKit
set_option maxRecDepth 100000
set_option maxHeartbeats 40000000
set_option linter.unusedVariables false
theorem basic_Letter_run (a0 : UInt8) (r : Bool) (hr : basic_Letter a0 = some r) : Run Try.prog 74 [.u8 a0] (.bo r) := by
  unfold basic_Letter at hr
  refine run_of_awp (fn := Try.f74) ⟨Try.func74, rfl, by kernel_rfl⟩ rfl (fun _ => rfl) fun g0 hg => ?_
  refine awp_seq ?_
  refine awp_region ?_
  refine awpl_op rfl (opTo_q (d := 2) rfl rfl ev_assign) ?_
  refine awpl_nil ?_
  refine kthen_normal ?_
  obtain ⟨j1, hx, hy⟩ := bind_some hr
  refine awp_join (fun j1 => [(2, .bo j1)]) (fun j1 => []) (fun z => j1 = z) ?_ ?_
  · have hr := hx
    clear hx hy
    refine awp_region ?_
    refine awpl_op rfl (opTo_q (d := 3) rfl rfl ev_move) ?_
    refine awpl_op rfl (opTo_q (d := 4) rfl rfl (ev_geq rfl rfl)) ?_
    refine awpl_op rfl (opTo_q (d := 5) rfl rfl ev_move) ?_
    refine bool_split (decide (97 ≤ (a0.toNat : Int))) (fun c2 => ?_) (fun c2 => ?_)
    · replace hr := cond_t c2 hr
      refine awpl_yes (d := 5) rfl rfl rfl c2 (opTo_q (d := 6) rfl rfl ev_move) ?_
      refine awpl_yes (d := 5) rfl rfl rfl c2 (opTo_q (d := 7) rfl rfl (ev_leq rfl rfl)) ?_
      refine awpl_op rfl (opTo_q (d := 8) rfl rfl (ev_pick_t rfl c2)) ?_
      refine awpl_op rfl (opTo_q (d := 9) rfl rfl ev_move) ?_
      refine bool_split (decide ((a0.toNat : Int) ≤ 122)) (fun c3 => ?_) (fun c3 => ?_)
      · replace hr := cond_t c3 hr
        refine awpl_no (d := 9) rfl rfl rfl c3 ?_
        refine awpl_no (d := 9) rfl rfl rfl c3 ?_
        refine awpl_no (d := 9) rfl rfl rfl c3 ?_
        refine awpl_none (d := 12) rfl rfl rfl ?_
        refine awpl_none (d := 12) rfl rfl rfl ?_
        refine awpl_no (d := 9) rfl rfl rfl c3 ?_
        refine awpl_op rfl (opTo_q (d := 16) rfl rfl (ev_pick_t rfl c3)) ?_
        refine awpl_op rfl (opTo_q (d := 17) rfl rfl ev_move) ?_
        refine awpl_no (d := 17) rfl rfl rfl rfl ?_
        refine awpl_no (d := 17) rfl rfl rfl rfl ?_
        refine awpl_no (d := 17) rfl rfl rfl rfl ?_
        refine awpl_none (d := 20) rfl rfl rfl ?_
        refine awpl_none (d := 20) rfl rfl rfl ?_
        refine awpl_no (d := 17) rfl rfl rfl rfl ?_
        refine awpl_op rfl (opTo_q (d := 24) rfl rfl (ev_pick_t rfl rfl)) ?_
        refine awpl_op rfl (opTo_q (d := 2) rfl rfl ev_assign) ?_
        refine awpl_nil ?_
        cases hr
        exact joinK_normal _ rfl (frLe_cons rfl frLe_nil) stoLe_nil
      · replace hr := cond_f c3 hr
        refine awpl_yes (d := 9) rfl rfl rfl c3 (opTo_q (d := 10) rfl rfl ev_move) ?_
        refine awpl_yes (d := 9) rfl rfl rfl c3 (opTo_q (d := 11) rfl rfl (ev_geq rfl rfl)) ?_
        refine awpl_yes (d := 9) rfl rfl rfl c3 (opTo_q (d := 12) rfl rfl ev_move) ?_
        refine bool_split (decide (65 ≤ (a0.toNat : Int))) (fun c4 => ?_) (fun c4 => ?_)
        · replace hr := cond_t c4 hr
          refine awpl_yes (d := 12) rfl rfl rfl c4 (opTo_q (d := 13) rfl rfl ev_move) ?_
          refine awpl_yes (d := 12) rfl rfl rfl c4 (opTo_q (d := 14) rfl rfl (ev_leq rfl rfl)) ?_
          refine awpl_yes (d := 9) rfl rfl rfl c3 (opTo_q (d := 15) rfl rfl (ev_pick_t rfl c4)) ?_
          refine awpl_op rfl (opTo_q (d := 16) rfl rfl (ev_pick_f rfl c3)) ?_
          refine awpl_op rfl (opTo_q (d := 17) rfl rfl ev_move) ?_
          refine bool_split (decide ((a0.toNat : Int) ≤ 90)) (fun c5 => ?_) (fun c5 => ?_)
          · replace hr := cond_t c5 hr
            refine awpl_no (d := 17) rfl rfl rfl c5 ?_
            refine awpl_no (d := 17) rfl rfl rfl c5 ?_
            refine awpl_no (d := 17) rfl rfl rfl c5 ?_
            refine awpl_none (d := 20) rfl rfl rfl ?_
            refine awpl_none (d := 20) rfl rfl rfl ?_
            refine awpl_no (d := 17) rfl rfl rfl c5 ?_
            refine awpl_op rfl (opTo_q (d := 24) rfl rfl (ev_pick_t rfl c5)) ?_
            refine awpl_op rfl (opTo_q (d := 2) rfl rfl ev_assign) ?_
            refine awpl_nil ?_
            cases hr
            exact joinK_normal _ rfl (frLe_cons rfl frLe_nil) stoLe_nil
          · replace hr := cond_f c5 hr
            refine awpl_yes (d := 17) rfl rfl rfl c5 (opTo_q (d := 18) rfl rfl ev_move) ?_
            refine awpl_yes (d := 17) rfl rfl rfl c5 (opTo_q (d := 19) rfl rfl (ev_geq rfl rfl)) ?_
            refine awpl_yes (d := 17) rfl rfl rfl c5 (opTo_q (d := 20) rfl rfl ev_move) ?_
            refine bool_split (decide (48 ≤ (a0.toNat : Int))) (fun c6 => ?_) (fun c6 => ?_)
            · replace hr := cond_t c6 hr
              refine awpl_yes (d := 20) rfl rfl rfl c6 (opTo_q (d := 21) rfl rfl ev_move) ?_
              refine awpl_yes (d := 20) rfl rfl rfl c6 (opTo_q (d := 22) rfl rfl (ev_leq rfl rfl)) ?_
              refine awpl_yes (d := 17) rfl rfl rfl c5 (opTo_q (d := 23) rfl rfl (ev_pick_t rfl c6)) ?_
              refine awpl_op rfl (opTo_q (d := 24) rfl rfl (ev_pick_f rfl c5)) ?_
              refine awpl_op rfl (opTo_q (d := 2) rfl rfl ev_assign) ?_
              refine awpl_nil ?_
              cases hr
              exact joinK_normal _ rfl (frLe_cons rfl frLe_nil) stoLe_nil
            · replace hr := cond_f c6 hr
              refine awpl_no (d := 20) rfl rfl rfl c6 ?_
              refine awpl_no (d := 20) rfl rfl rfl c6 ?_
              refine awpl_yes (d := 17) rfl rfl rfl c5 (opTo_q (d := 23) rfl rfl (ev_pick_f rfl c6)) ?_
              refine awpl_op rfl (opTo_q (d := 24) rfl rfl (ev_pick_f rfl c5)) ?_
              refine awpl_op rfl (opTo_q (d := 2) rfl rfl ev_assign) ?_
              refine awpl_nil ?_
              cases hr
              exact joinK_normal _ rfl (frLe_cons rfl frLe_nil) stoLe_nil
        · replace hr := cond_f c4 hr
          refine awpl_no (d := 12) rfl rfl rfl c4 ?_
          refine awpl_no (d := 12) rfl rfl rfl c4 ?_
          refine awpl_yes (d := 9) rfl rfl rfl c3 (opTo_q (d := 15) rfl rfl (ev_pick_f rfl c4)) ?_
          refine awpl_op rfl (opTo_q (d := 16) rfl rfl (ev_pick_f rfl c3)) ?_
          refine awpl_op rfl (opTo_q (d := 17) rfl rfl ev_move) ?_
          refine awpl_yes (d := 17) rfl rfl rfl rfl (opTo_q (d := 18) rfl rfl ev_move) ?_
          refine awpl_yes (d := 17) rfl rfl rfl rfl (opTo_q (d := 19) rfl rfl (ev_geq rfl rfl)) ?_
          refine awpl_yes (d := 17) rfl rfl rfl rfl (opTo_q (d := 20) rfl rfl ev_move) ?_
          refine bool_split (decide (48 ≤ (a0.toNat : Int))) (fun c7 => ?_) (fun c7 => ?_)
          · replace hr := cond_t c7 hr
            refine awpl_yes (d := 20) rfl rfl rfl c7 (opTo_q (d := 21) rfl rfl ev_move) ?_
            refine awpl_yes (d := 20) rfl rfl rfl c7 (opTo_q (d := 22) rfl rfl (ev_leq rfl rfl)) ?_
            refine awpl_yes (d := 17) rfl rfl rfl rfl (opTo_q (d := 23) rfl rfl (ev_pick_t rfl c7)) ?_
            refine awpl_op rfl (opTo_q (d := 24) rfl rfl (ev_pick_f rfl rfl)) ?_
            refine awpl_op rfl (opTo_q (d := 2) rfl rfl ev_assign) ?_
            refine awpl_nil ?_
            cases hr
            exact joinK_normal _ rfl (frLe_cons rfl frLe_nil) stoLe_nil
          · replace hr := cond_f c7 hr
            refine awpl_no (d := 20) rfl rfl rfl c7 ?_
            refine awpl_no (d := 20) rfl rfl rfl c7 ?_
            refine awpl_yes (d := 17) rfl rfl rfl rfl (opTo_q (d := 23) rfl rfl (ev_pick_f rfl c7)) ?_
            refine awpl_op rfl (opTo_q (d := 24) rfl rfl (ev_pick_f rfl rfl)) ?_
            refine awpl_op rfl (opTo_q (d := 2) rfl rfl ev_assign) ?_
            refine awpl_nil ?_
            cases hr
            exact joinK_normal _ rfl (frLe_cons rfl frLe_nil) stoLe_nil
    · replace hr := cond_f c2 hr
      refine awpl_no (d := 5) rfl rfl rfl c2 ?_
      refine awpl_no (d := 5) rfl rfl rfl c2 ?_
      refine awpl_op rfl (opTo_q (d := 8) rfl rfl (ev_pick_f rfl c2)) ?_
      refine awpl_op rfl (opTo_q (d := 9) rfl rfl ev_move) ?_
      refine awpl_yes (d := 9) rfl rfl rfl rfl (opTo_q (d := 10) rfl rfl ev_move) ?_
      refine awpl_yes (d := 9) rfl rfl rfl rfl (opTo_q (d := 11) rfl rfl (ev_geq rfl rfl)) ?_
      refine awpl_yes (d := 9) rfl rfl rfl rfl (opTo_q (d := 12) rfl rfl ev_move) ?_
      refine bool_split (decide (65 ≤ (a0.toNat : Int))) (fun c8 => ?_) (fun c8 => ?_)
      · replace hr := cond_t c8 hr
        refine awpl_yes (d := 12) rfl rfl rfl c8 (opTo_q (d := 13) rfl rfl ev_move) ?_
        refine awpl_yes (d := 12) rfl rfl rfl c8 (opTo_q (d := 14) rfl rfl (ev_leq rfl rfl)) ?_
        refine awpl_yes (d := 9) rfl rfl rfl rfl (opTo_q (d := 15) rfl rfl (ev_pick_t rfl c8)) ?_
        refine awpl_op rfl (opTo_q (d := 16) rfl rfl (ev_pick_f rfl rfl)) ?_
        refine awpl_op rfl (opTo_q (d := 17) rfl rfl ev_move) ?_
        refine bool_split (decide ((a0.toNat : Int) ≤ 90)) (fun c9 => ?_) (fun c9 => ?_)
        · replace hr := cond_t c9 hr
          refine awpl_no (d := 17) rfl rfl rfl c9 ?_
          refine awpl_no (d := 17) rfl rfl rfl c9 ?_
          refine awpl_no (d := 17) rfl rfl rfl c9 ?_
          refine awpl_none (d := 20) rfl rfl rfl ?_
          refine awpl_none (d := 20) rfl rfl rfl ?_
          refine awpl_no (d := 17) rfl rfl rfl c9 ?_
          refine awpl_op rfl (opTo_q (d := 24) rfl rfl (ev_pick_t rfl c9)) ?_
          refine awpl_op rfl (opTo_q (d := 2) rfl rfl ev_assign) ?_
          refine awpl_nil ?_
          cases hr
          exact joinK_normal _ rfl (frLe_cons rfl frLe_nil) stoLe_nil
        · replace hr := cond_f c9 hr
          refine awpl_yes (d := 17) rfl rfl rfl c9 (opTo_q (d := 18) rfl rfl ev_move) ?_
          refine awpl_yes (d := 17) rfl rfl rfl c9 (opTo_q (d := 19) rfl rfl (ev_geq rfl rfl)) ?_
          refine awpl_yes (d := 17) rfl rfl rfl c9 (opTo_q (d := 20) rfl rfl ev_move) ?_
          refine bool_split (decide (48 ≤ (a0.toNat : Int))) (fun c10 => ?_) (fun c10 => ?_)
          · replace hr := cond_t c10 hr
            refine awpl_yes (d := 20) rfl rfl rfl c10 (opTo_q (d := 21) rfl rfl ev_move) ?_
            refine awpl_yes (d := 20) rfl rfl rfl c10 (opTo_q (d := 22) rfl rfl (ev_leq rfl rfl)) ?_
            refine awpl_yes (d := 17) rfl rfl rfl c9 (opTo_q (d := 23) rfl rfl (ev_pick_t rfl c10)) ?_
            refine awpl_op rfl (opTo_q (d := 24) rfl rfl (ev_pick_f rfl c9)) ?_
            refine awpl_op rfl (opTo_q (d := 2) rfl rfl ev_assign) ?_
            refine awpl_nil ?_
            cases hr
            exact joinK_normal _ rfl (frLe_cons rfl frLe_nil) stoLe_nil
          · replace hr := cond_f c10 hr
            refine awpl_no (d := 20) rfl rfl rfl c10 ?_
            refine awpl_no (d := 20) rfl rfl rfl c10 ?_
            refine awpl_yes (d := 17) rfl rfl rfl c9 (opTo_q (d := 23) rfl rfl (ev_pick_f rfl c10)) ?_
            refine awpl_op rfl (opTo_q (d := 24) rfl rfl (ev_pick_f rfl c9)) ?_
            refine awpl_op rfl (opTo_q (d := 2) rfl rfl ev_assign) ?_
            refine awpl_nil ?_
            cases hr
            exact joinK_normal _ rfl (frLe_cons rfl frLe_nil) stoLe_nil
      · replace hr := cond_f c8 hr
        refine awpl_no (d := 12) rfl rfl rfl c8 ?_
        refine awpl_no (d := 12) rfl rfl rfl c8 ?_
        refine awpl_yes (d := 9) rfl rfl rfl rfl (opTo_q (d := 15) rfl rfl (ev_pick_f rfl c8)) ?_
        refine awpl_op rfl (opTo_q (d := 16) rfl rfl (ev_pick_f rfl rfl)) ?_
        refine awpl_op rfl (opTo_q (d := 17) rfl rfl ev_move) ?_
        refine awpl_yes (d := 17) rfl rfl rfl rfl (opTo_q (d := 18) rfl rfl ev_move) ?_
        refine awpl_yes (d := 17) rfl rfl rfl rfl (opTo_q (d := 19) rfl rfl (ev_geq rfl rfl)) ?_
        refine awpl_yes (d := 17) rfl rfl rfl rfl (opTo_q (d := 20) rfl rfl ev_move) ?_
        refine bool_split (decide (48 ≤ (a0.toNat : Int))) (fun c11 => ?_) (fun c11 => ?_)
        · replace hr := cond_t c11 hr
          refine awpl_yes (d := 20) rfl rfl rfl c11 (opTo_q (d := 21) rfl rfl ev_move) ?_
          refine awpl_yes (d := 20) rfl rfl rfl c11 (opTo_q (d := 22) rfl rfl (ev_leq rfl rfl)) ?_
          refine awpl_yes (d := 17) rfl rfl rfl rfl (opTo_q (d := 23) rfl rfl (ev_pick_t rfl c11)) ?_
          refine awpl_op rfl (opTo_q (d := 24) rfl rfl (ev_pick_f rfl rfl)) ?_
          refine awpl_op rfl (opTo_q (d := 2) rfl rfl ev_assign) ?_
          refine awpl_nil ?_
          cases hr
          exact joinK_normal _ rfl (frLe_cons rfl frLe_nil) stoLe_nil
        · replace hr := cond_f c11 hr
          refine awpl_no (d := 20) rfl rfl rfl c11 ?_
          refine awpl_no (d := 20) rfl rfl rfl c11 ?_
          refine awpl_yes (d := 17) rfl rfl rfl rfl (opTo_q (d := 23) rfl rfl (ev_pick_f rfl c11)) ?_
          refine awpl_op rfl (opTo_q (d := 24) rfl rfl (ev_pick_f rfl rfl)) ?_
          refine awpl_op rfl (opTo_q (d := 2) rfl rfl ev_assign) ?_
          refine awpl_nil ?_
          cases hr
          exact joinK_normal _ rfl (frLe_cons rfl frLe_nil) stoLe_nil
  · rintro _ rfl
    have hr := hy
    clear hx hy
    refine awp_ret ?_
    cases hr
    exact kret' rfl (.cons (res_tmp rfl) .nil) rfl
end Go.Proofs.Ytlpmbmilnoncdaa

/- A function of the program computes what its Lean function does. Written by program. -/
namespace Go.Proofs.Ytlpmbmilnoncdaa
open Go.RowKit
set_option maxRecDepth 100000
set_option maxHeartbeats 40000000
set_option linter.unusedVariables false
theorem internal_stringslite_HasPrefix_run (a0 : Str) (a1 : Str) (r : Bool) (hr : internal_stringslite_HasPrefix a0 a1 = some r) : Run Try.prog 88 [.s a0, .s a1] (.bo r) := by
  unfold internal_stringslite_HasPrefix at hr
  refine run_of_awp (fn := Try.f88) ⟨Try.func88, rfl, by kernel_rfl⟩ rfl (fun _ => rfl) fun g0 hg => ?_
  refine awp_seq ?_
  refine awp_region ?_
  refine awpl_op rfl (opTo_q (d := 4) rfl rfl ev_assign) ?_
  refine awpl_nil ?_
  refine kthen_normal ?_
  obtain ⟨j1, hx, hy⟩ := bind_some hr
  refine awp_join (fun j1 => [(4, .bo j1)]) (fun j1 => []) (fun z => j1 = z) ?_ ?_
  · have hr := hx
    clear hx hy
    refine awp_region ?_
    refine awpl_op rfl (opTo_q (d := 5) rfl rfl ev_move) ?_
    refine awpl_op rfl (opTo_q (d := 6) rfl rfl (ev_slen rfl ty_string.u)) ?_
    refine awpl_op rfl (opTo_q (d := 7) rfl rfl ev_move) ?_
    refine awpl_op rfl (opTo_q (d := 8) rfl rfl (ev_slen rfl ty_string.u)) ?_
    refine awpl_op rfl (opTo_q (d := 9) rfl rfl (ev_geq rfl rfl)) ?_
    refine awpl_op rfl (opTo_q (d := 10) rfl rfl ev_move) ?_
    refine bool_split (decide ((a1.length : Int) ≤ (a0.length : Int))) (fun c2 => ?_) (fun c2 => ?_)
    · replace hr := cond_t c2 hr
      refine awpl_yes (d := 10) rfl rfl rfl c2 (opTo_q (d := 11) rfl rfl ev_move) ?_
      refine awpl_yes (d := 10) rfl rfl rfl c2 (opTo_q (d := 12) rfl rfl ev_move) ?_
      refine awpl_yes (d := 10) rfl rfl rfl c2 (opTo_q (d := 13) rfl rfl (ev_slen rfl ty_string.u)) ?_
      obtain ⟨v3, h4, hr⟩ := bind_some hr
      refine awpl_yes (d := 10) rfl rfl rfl c2 (opTo_q (d := 14) rfl rfl (ev_scutH rfl rfl ty_string h4)) ?_
      refine awpl_yes (d := 10) rfl rfl rfl c2 (opTo_q (d := 15) rfl rfl ev_move) ?_
      refine awpl_yes (d := 10) rfl rfl rfl c2 (opTo_q (d := 16) rfl rfl (ev_seql (a := v3) (b := a1) rfl rfl)) ?_
      refine awpl_op rfl (opTo_q (d := 17) rfl rfl (ev_pick_t rfl c2)) ?_
      refine awpl_op rfl (opTo_q (d := 4) rfl rfl ev_assign) ?_
      refine awpl_nil ?_
      cases hr
      exact joinK_normal _ rfl (frLe_cons rfl frLe_nil) stoLe_nil
    · replace hr := cond_f c2 hr
      refine awpl_no (d := 10) rfl rfl rfl c2 ?_
      refine awpl_no (d := 10) rfl rfl rfl c2 ?_
      refine awpl_no (d := 10) rfl rfl rfl c2 ?_
      refine awpl_no (d := 10) rfl rfl rfl c2 ?_
      refine awpl_no (d := 10) rfl rfl rfl c2 ?_
      refine awpl_no (d := 10) rfl rfl rfl c2 ?_
      refine awpl_op rfl (opTo_q (d := 17) rfl rfl (ev_pick_f rfl c2)) ?_
      refine awpl_op rfl (opTo_q (d := 4) rfl rfl ev_assign) ?_
      refine awpl_nil ?_
      cases hr
      exact joinK_normal _ rfl (frLe_cons rfl frLe_nil) stoLe_nil
  · rintro _ rfl
    have hr := hy
    clear hx hy
    refine awp_ret ?_
    cases hr
    exact kret' rfl (.cons (res_tmp rfl) .nil) rfl
end Go.Proofs.Ytlpmbmilnoncdaa

/- A function of the program computes what its Lean function does. Written by program. -/
namespace Go.Proofs.Ytlpmbmilnoncdaa
open Go.RowKit
set_option maxRecDepth 100000
set_option maxHeartbeats 40000000
set_option linter.unusedVariables false
theorem strings_HasPrefix_run (a0 : Str) (a1 : Str) (r : Bool) (hr : strings_HasPrefix a0 a1 = some r) : Run Try.prog 83 [.s a0, .s a1] (.bo r) := by
  unfold strings_HasPrefix at hr
  refine run_of_awp (fn := Try.f83) ⟨Try.func83, rfl, by kernel_rfl⟩ rfl (fun _ => rfl) fun g0 hg => ?_
  refine awp_seq ?_
  refine awp_region ?_
  refine awpl_op rfl (opTo_q (d := 4) rfl rfl ev_assign) ?_
  refine awpl_nil ?_
  refine kthen_normal ?_
  refine awp_seq ?_
  refine awp_region ?_
  refine awpl_op rfl (opTo_q (d := 5) rfl rfl ev_move) ?_
  refine awpl_op rfl (opTo_q (d := 6) rfl rfl ev_move) ?_
  obtain ⟨v1, h2, hr⟩ := bind_some hr
  refine awpl_op rfl (opTo_call (k := 7) (internal_stringslite_HasPrefix_run a0 a1 v1 h2) rfl rfl) ?_
  refine awpl_op rfl (opTo_q (d := 4) rfl rfl ev_assign) ?_
  refine awpl_nil ?_
  refine kthen_normal ?_
  refine awp_ret ?_
  cases hr
  exact kret' rfl (.cons (res_tmp rfl) .nil) rfl
end Go.Proofs.Ytlpmbmilnoncdaa

/- A function of the program computes what its Lean function does. Written by program. -/
namespace Go.Proofs.Ytlpmbmilnoncdaa
open Go.RowKit
set_option maxRecDepth 100000
set_option maxHeartbeats 40000000
set_option linter.unusedVariables false
theorem internal_stringslite_HasSuffix_run (a0 : Str) (a1 : Str) (r : Bool) (hr : internal_stringslite_HasSuffix a0 a1 = some r) : Run Try.prog 89 [.s a0, .s a1] (.bo r) := by
  unfold internal_stringslite_HasSuffix at hr
  refine run_of_awp (fn := Try.f89) ⟨Try.func89, rfl, by kernel_rfl⟩ rfl (fun _ => rfl) fun g0 hg => ?_
  refine awp_seq ?_
  refine awp_region ?_
  refine awpl_op rfl (opTo_q (d := 4) rfl rfl ev_assign) ?_
  refine awpl_nil ?_
  refine kthen_normal ?_
  obtain ⟨j1, hx, hy⟩ := bind_some hr
  refine awp_join (fun j1 => [(4, .bo j1)]) (fun j1 => []) (fun z => j1 = z) ?_ ?_
  · have hr := hx
    clear hx hy
    refine awp_region ?_
    refine awpl_op rfl (opTo_q (d := 5) rfl rfl ev_move) ?_
    refine awpl_op rfl (opTo_q (d := 6) rfl rfl (ev_slen rfl ty_string.u)) ?_
    refine awpl_op rfl (opTo_q (d := 7) rfl rfl ev_move) ?_
    refine awpl_op rfl (opTo_q (d := 8) rfl rfl (ev_slen rfl ty_string.u)) ?_
    refine awpl_op rfl (opTo_q (d := 9) rfl rfl (ev_geq rfl rfl)) ?_
    refine awpl_op rfl (opTo_q (d := 10) rfl rfl ev_move) ?_
    refine bool_split (decide ((a1.length : Int) ≤ (a0.length : Int))) (fun c2 => ?_) (fun c2 => ?_)
    · replace hr := cond_t c2 hr
      refine awpl_yes (d := 10) rfl rfl rfl c2 (opTo_q (d := 11) rfl rfl ev_move) ?_
      refine awpl_yes (d := 10) rfl rfl rfl c2 (opTo_q (d := 12) rfl rfl ev_move) ?_
      refine awpl_yes (d := 10) rfl rfl rfl c2 (opTo_q (d := 13) rfl rfl (ev_slen rfl ty_string.u)) ?_
      refine awpl_yes (d := 10) rfl rfl rfl c2 (opTo_q (d := 14) rfl rfl ev_move) ?_
      refine awpl_yes (d := 10) rfl rfl rfl c2 (opTo_q (d := 15) rfl rfl (ev_slen rfl ty_string.u)) ?_
      refine awpl_yes (d := 10) rfl rfl rfl c2 (opTo_q (d := 16) rfl rfl (ev_sub rfl rfl)) ?_
      obtain ⟨v3, h4, hr⟩ := bind_some hr
      refine awpl_yes (d := 10) rfl rfl rfl c2 (opTo_q (d := 17) rfl rfl (ev_scutL rfl rfl ty_string h4)) ?_
      refine awpl_yes (d := 10) rfl rfl rfl c2 (opTo_q (d := 18) rfl rfl ev_move) ?_
      refine awpl_yes (d := 10) rfl rfl rfl c2 (opTo_q (d := 19) rfl rfl (ev_seql (a := v3) (b := a1) rfl rfl)) ?_
      refine awpl_op rfl (opTo_q (d := 20) rfl rfl (ev_pick_t rfl c2)) ?_
      refine awpl_op rfl (opTo_q (d := 4) rfl rfl ev_assign) ?_
      refine awpl_nil ?_
      cases hr
      exact joinK_normal _ rfl (frLe_cons rfl frLe_nil) stoLe_nil
    · replace hr := cond_f c2 hr
      refine awpl_no (d := 10) rfl rfl rfl c2 ?_
      refine awpl_no (d := 10) rfl rfl rfl c2 ?_
      refine awpl_no (d := 10) rfl rfl rfl c2 ?_
      refine awpl_no (d := 10) rfl rfl rfl c2 ?_
      refine awpl_no (d := 10) rfl rfl rfl c2 ?_
      refine awpl_no (d := 10) rfl rfl rfl c2 ?_
      refine awpl_no (d := 10) rfl rfl rfl c2 ?_
      refine awpl_no (d := 10) rfl rfl rfl c2 ?_
      refine awpl_no (d := 10) rfl rfl rfl c2 ?_
      refine awpl_op rfl (opTo_q (d := 20) rfl rfl (ev_pick_f rfl c2)) ?_
      refine awpl_op rfl (opTo_q (d := 4) rfl rfl ev_assign) ?_
      refine awpl_nil ?_
      cases hr
      exact joinK_normal _ rfl (frLe_cons rfl frLe_nil) stoLe_nil
  · rintro _ rfl
    have hr := hy
    clear hx hy
    refine awp_ret ?_
    cases hr
    exact kret' rfl (.cons (res_tmp rfl) .nil) rfl
end Go.Proofs.Ytlpmbmilnoncdaa

/- A function of the program computes what its Lean function does. Written by program. -/
namespace Go.Proofs.Ytlpmbmilnoncdaa
open Go.RowKit
set_option maxRecDepth 100000
set_option maxHeartbeats 40000000
set_option linter.unusedVariables false
theorem strings_HasSuffix_run (a0 : Str) (a1 : Str) (r : Bool) (hr : strings_HasSuffix a0 a1 = some r) : Run Try.prog 84 [.s a0, .s a1] (.bo r) := by
  unfold strings_HasSuffix at hr
  refine run_of_awp (fn := Try.f84) ⟨Try.func84, rfl, by kernel_rfl⟩ rfl (fun _ => rfl) fun g0 hg => ?_
  refine awp_seq ?_
  refine awp_region ?_
  refine awpl_op rfl (opTo_q (d := 4) rfl rfl ev_assign) ?_
  refine awpl_nil ?_
  refine kthen_normal ?_
  refine awp_seq ?_
  refine awp_region ?_
  refine awpl_op rfl (opTo_q (d := 5) rfl rfl ev_move) ?_
  refine awpl_op rfl (opTo_q (d := 6) rfl rfl ev_move) ?_
  obtain ⟨v1, h2, hr⟩ := bind_some hr
  refine awpl_op rfl (opTo_call (k := 7) (internal_stringslite_HasSuffix_run a0 a1 v1 h2) rfl rfl) ?_
  refine awpl_op rfl (opTo_q (d := 4) rfl rfl ev_assign) ?_
  refine awpl_nil ?_
  refine kthen_normal ?_
  refine awp_ret ?_
  cases hr
  exact kret' rfl (.cons (res_tmp rfl) .nil) rfl
end Go.Proofs.Ytlpmbmilnoncdaa

/- A function of the program computes what its Lean function does. Written by program. -/
namespace Go.Proofs.Ytlpmbmilnoncdaa
open Go.RowKit
set_option maxRecDepth 100000
set_option maxHeartbeats 40000000
set_option linter.unusedVariables false
theorem envelope_Domain_run (a0 : Str) (r : Bool) (hr : envelope_Domain a0 = some r) : Run Try.prog 77 [.s a0] (.bo r) := by
  unfold envelope_Domain at hr
  refine run_of_awp (fn := Try.f77) ⟨Try.func77, rfl, by kernel_rfl⟩ rfl (fun _ => rfl) fun g0 hg => ?_
  refine awp_seq ?_
  refine awp_region ?_
  refine awpl_op rfl (opTo_q (d := 2) rfl rfl ev_assign) ?_
  refine awpl_nil ?_
  refine kthen_normal ?_
  refine awp_seq ?_
  refine awp_region ?_
  refine awpl_op rfl (opTo_q (d := 3) rfl rfl ev_assign) ?_
  refine awpl_nil ?_
  refine kthen_normal ?_
  obtain ⟨j1, hx, hy⟩ := bind_some hr
  refine awp_join (fun j1 => [(2, .bo j1)]) (fun j1 => []) (fun z => j1 = z) ?_ ?_
  · have hr := hx
    clear hx hy
    refine awp_region ?_
    refine awpl_op rfl (opTo_q (d := 4) rfl rfl ev_move) ?_
    refine awpl_op rfl (opTo_q (d := 5) rfl rfl (ev_sneq (a := a0) (b := ([] : Str)) rfl rfl)) ?_
    refine awpl_op rfl (opTo_q (d := 6) rfl rfl ev_move) ?_
    refine bool_split ((a0 != ([] : Str))) (fun c2 => ?_) (fun c2 => ?_)
    · replace hr := cond_t c2 hr
      refine awpl_yes (d := 6) rfl rfl rfl c2 (opTo_q (d := 7) rfl rfl ev_move) ?_
      refine awpl_yes (d := 6) rfl rfl rfl c2 (opTo_q (d := 8) rfl rfl (ev_slen rfl ty_string.u)) ?_
      refine awpl_yes (d := 6) rfl rfl rfl c2 (opTo_q (d := 9) rfl rfl (ev_leq rfl rfl)) ?_
      refine awpl_op rfl (opTo_q (d := 10) rfl rfl (ev_pick_t rfl c2)) ?_
      refine awpl_op rfl (opTo_q (d := 11) rfl rfl ev_move) ?_
      refine bool_split (decide ((a0.length : Int) ≤ 60)) (fun c3 => ?_) (fun c3 => ?_)
      · replace hr := cond_t c3 hr
        refine awpl_yes (d := 11) rfl rfl rfl c3 (opTo_q (d := 12) rfl rfl ev_move) ?_
        refine awpl_yes (d := 11) rfl rfl rfl c3 (opTo_q (d := 13) rfl rfl ev_move) ?_
        obtain ⟨j4, hx, hy⟩ := bind_some hr
        refine awpl_cut (fun j4 => [(0, .s a0), (11, .bo (decide ((a0.length : Int) ≤ 60))), (14, .bo j4)]) (fun j4 => []) (fun z => j4 = z) (fun jump4 => ?_) ?_
        · have hr := hx
          clear hx hy
          refine awpl_inl (fn := Try.f76) (args := [.s a0, .fn (.func 82) [] []]) 400000 499999 [(0, .s a0), (11, .bo (decide ((a0.length : Int) ≤ 60)))] (wanted_yes (d := 11) rfl rfl rfl c3) rfl ⟨Try.func76, rfl, by kernel_rfl⟩ rfl rfl (.cons rfl (.cons rfl .nil)) fun T4 ds4 hT4 => ?_
          refine awp_seq ?_
          refine awp_region ?_
          refine awpl_op rfl (opTo_q (d := 4) rfl rfl ev_assign) ?_
          refine awpl_nil ?_
          refine kthen_normal ?_
          refine awp_seq ?_
          refine awp_seq ?_
          refine awp_region ?_
          refine awpl_op rfl (opTo_q (d := 6) rfl rfl ev_move) ?_
          refine awpl_op rfl (opTo_q (d := 7) rfl rfl (ev_slen rfl ty_string.u)) ?_
          refine awpl_op rfl (opTo_q (d := 8) rfl rfl ev_move) ?_
          refine awpl_nil ?_
          refine kthen_normal ?_
          refine awp_block ?_
          obtain ⟨o8, hl, hr⟩ := bind_some hr
          refine awp_loop (envelope_Domain_l1 a0) (fun s5 => [(0, .s a0), (1, .fn (.func 82) [] []), (7, .i ((a0.length : Int))), (8, .i s5)]) (fun s5 => [(499999, .sus g0.w.heap.size ds4), (400000, .hold (.s a0) (T4.getD 0 undef)), (400011, .hold (.bo (decide ((a0.length : Int) ≤ 60))) (T4.getD 11 undef))]) (fun o => match o with | .inl b6 => At (.exit 0) [] [(499999, .sus g0.w.heap.size ds4), (400000, .hold (.s a0) (T4.getD 0 undef)), (400011, .hold (.bo (decide ((a0.length : Int) ≤ 60))) (T4.getD 11 undef))] | .inr b7 => At .ret [(4, .bo false)] [(499999, .sus g0.w.heap.size ds4), (400000, .hold (.s a0) (T4.getD 0 undef)), (400011, .hold (.bo (decide ((a0.length : Int) ≤ 60))) (T4.getD 11 undef))]) ?_ 0 hl (frLe_cons rfl (frLe_cons rfl (frLe_cons rfl (frLe_cons rfl frLe_nil)))) (stoLe_cons rfl (stoLe_cons rfl (stoLe_cons rfl stoLe_nil))) ?_
          · intro s5 x9 hr
            unfold envelope_Domain_l1 at hr
            refine awp_seq ?_
            refine awp_region ?_
            refine awpl_op rfl (opTo_q (d := 9) rfl rfl (ev_lss rfl rfl)) ?_
            refine awpl_nil ?_
            refine kthen_normal ?_
            refine awp_seq ?_
            refine awp_cond rfl (fun c10 => ?_) (fun c10 => ?_)
            · replace hr := cond_t c10 hr
              refine awp_skip ?_
              refine kthen_normal ?_
              refine awp_seq ?_
              refine awp_block ?_
              refine awp_seq ?_
              refine awp_region ?_
              refine awpl_op rfl (opTo_q (d := 10) rfl rfl ev_move) ?_
              refine awpl_op rfl (opTo_q (d := 5) rfl rfl ev_assign) ?_
              refine awpl_nil ?_
              refine kthen_normal ?_
              refine awp_seq ?_
              refine awp_region ?_
              refine awpl_op rfl (opTo_q (d := 11) rfl rfl ev_move) ?_
              refine awpl_op rfl (opTo_q (d := 12) rfl rfl ev_move) ?_
              refine awpl_op rfl (opTo_q (d := 13) rfl rfl ev_move) ?_
              obtain ⟨v11, h12, hr⟩ := bind_some hr
              refine awpl_op rfl (opTo_q (d := 14) rfl rfl (ev_sidx rfl rfl ty_string h12)) ?_
              refine awpl_inl (fn := Try.f82) (args := [.u8 v11]) 600000 699999 [(0, .s a0), (1, .fn (.func 82) [] []), (7, .i ((a0.length : Int))), (8, .i s5)] (wanted_plain rfl) rfl ⟨Try.func82, rfl, by kernel_rfl⟩ rfl rfl (.cons rfl (.cons rfl (.cons rfl (.cons rfl .nil)))) fun T6 ds6 hT6 => ?_
              refine awp_seq ?_
              refine awp_region ?_
              refine awpl_op rfl (opTo_q (d := 2) rfl rfl ev_assign) ?_
              refine awpl_nil ?_
              refine kthen_normal ?_
              obtain ⟨j13, hx, hy⟩ := bind_some hr
              refine awp_join (fun j13 => [(2, .bo j13)]) (fun j13 => [(699999, .sus g0.w.heap.size ds6), (600000, .hold (.s a0) (T6.getD 0 undef)), (600001, .hold (.fn (.func 82) [] []) (T6.getD 1 undef)), (600007, .hold (.i ((a0.length : Int))) (T6.getD 7 undef)), (600008, .hold (.i s5) (T6.getD 8 undef)), (499999, .sus g0.w.heap.size ds4), (400000, .hold (.s a0) (T4.getD 0 undef)), (400011, .hold (.bo (decide ((a0.length : Int) ≤ 60))) (T4.getD 11 undef))]) (fun z => j13 = z) ?_ ?_
              · have hr := hx
                clear hx hy
                refine awp_region ?_
                refine awpl_op rfl (opTo_q (d := 3) rfl rfl ev_move) ?_
                refine awpl_op rfl (opTo_q (d := 4) rfl rfl (ev_geq rfl rfl)) ?_
                refine awpl_op rfl (opTo_q (d := 5) rfl rfl ev_move) ?_
                refine bool_split (decide (97 ≤ (v11.toNat : Int))) (fun c14 => ?_) (fun c14 => ?_)
                · replace hr := cond_t c14 hr
                  refine awpl_yes (d := 5) rfl rfl rfl c14 (opTo_q (d := 6) rfl rfl ev_move) ?_
                  refine awpl_yes (d := 5) rfl rfl rfl c14 (opTo_q (d := 7) rfl rfl (ev_leq rfl rfl)) ?_
                  refine awpl_op rfl (opTo_q (d := 8) rfl rfl (ev_pick_t rfl c14)) ?_
                  refine awpl_op rfl (opTo_q (d := 9) rfl rfl ev_move) ?_
                  refine bool_split (decide ((v11.toNat : Int) ≤ 122)) (fun c15 => ?_) (fun c15 => ?_)
                  · replace hr := cond_t c15 hr
                    refine awpl_no (d := 9) rfl rfl rfl c15 ?_
                    refine awpl_no (d := 9) rfl rfl rfl c15 ?_
                    refine awpl_no (d := 9) rfl rfl rfl c15 ?_
                    refine awpl_none (d := 12) rfl rfl rfl ?_
                    refine awpl_none (d := 12) rfl rfl rfl ?_
                    refine awpl_no (d := 9) rfl rfl rfl c15 ?_
                    refine awpl_op rfl (opTo_q (d := 16) rfl rfl (ev_pick_t rfl c15)) ?_
                    refine awpl_op rfl (opTo_q (d := 17) rfl rfl ev_move) ?_
                    refine awpl_no (d := 17) rfl rfl rfl rfl ?_
                    refine awpl_no (d := 17) rfl rfl rfl rfl ?_
                    refine awpl_op rfl (opTo_q (d := 20) rfl rfl (ev_pick_t rfl rfl)) ?_
                    refine awpl_op rfl (opTo_q (d := 21) rfl rfl ev_move) ?_
                    refine awpl_no (d := 21) rfl rfl rfl rfl ?_
                    refine awpl_no (d := 21) rfl rfl rfl rfl ?_
                    refine awpl_op rfl (opTo_q (d := 24) rfl rfl (ev_pick_t rfl rfl)) ?_
                    refine awpl_op rfl (opTo_q (d := 2) rfl rfl ev_assign) ?_
                    refine awpl_nil ?_
                    cases hr
                    exact joinK_normal _ rfl (frLe_cons rfl frLe_nil) (stoLe_cons rfl (stoLe_cons rfl (stoLe_cons rfl (stoLe_cons rfl (stoLe_cons rfl (stoLe_cons rfl (stoLe_cons rfl (stoLe_cons rfl stoLe_nil))))))))
                  · replace hr := cond_f c15 hr
                    refine awpl_yes (d := 9) rfl rfl rfl c15 (opTo_q (d := 10) rfl rfl ev_move) ?_
                    refine awpl_yes (d := 9) rfl rfl rfl c15 (opTo_q (d := 11) rfl rfl (ev_geq rfl rfl)) ?_
                    refine awpl_yes (d := 9) rfl rfl rfl c15 (opTo_q (d := 12) rfl rfl ev_move) ?_
                    refine bool_split (decide (48 ≤ (v11.toNat : Int))) (fun c16 => ?_) (fun c16 => ?_)
                    · replace hr := cond_t c16 hr
                      refine awpl_yes (d := 12) rfl rfl rfl c16 (opTo_q (d := 13) rfl rfl ev_move) ?_
                      refine awpl_yes (d := 12) rfl rfl rfl c16 (opTo_q (d := 14) rfl rfl (ev_leq rfl rfl)) ?_
                      refine awpl_yes (d := 9) rfl rfl rfl c15 (opTo_q (d := 15) rfl rfl (ev_pick_t rfl c16)) ?_
                      refine awpl_op rfl (opTo_q (d := 16) rfl rfl (ev_pick_f rfl c15)) ?_
                      refine awpl_op rfl (opTo_q (d := 17) rfl rfl ev_move) ?_
                      refine bool_split (decide ((v11.toNat : Int) ≤ 57)) (fun c17 => ?_) (fun c17 => ?_)
                      · replace hr := cond_t c17 hr
                        refine awpl_no (d := 17) rfl rfl rfl c17 ?_
                        refine awpl_no (d := 17) rfl rfl rfl c17 ?_
                        refine awpl_op rfl (opTo_q (d := 20) rfl rfl (ev_pick_t rfl c17)) ?_
                        refine awpl_op rfl (opTo_q (d := 21) rfl rfl ev_move) ?_
                        refine awpl_no (d := 21) rfl rfl rfl rfl ?_
                        refine awpl_no (d := 21) rfl rfl rfl rfl ?_
                        refine awpl_op rfl (opTo_q (d := 24) rfl rfl (ev_pick_t rfl rfl)) ?_
                        refine awpl_op rfl (opTo_q (d := 2) rfl rfl ev_assign) ?_
                        refine awpl_nil ?_
                        cases hr
                        exact joinK_normal _ rfl (frLe_cons rfl frLe_nil) (stoLe_cons rfl (stoLe_cons rfl (stoLe_cons rfl (stoLe_cons rfl (stoLe_cons rfl (stoLe_cons rfl (stoLe_cons rfl (stoLe_cons rfl stoLe_nil))))))))
                      · replace hr := cond_f c17 hr
                        refine awpl_yes (d := 17) rfl rfl rfl c17 (opTo_q (d := 18) rfl rfl ev_move) ?_
                        refine awpl_yes (d := 17) rfl rfl rfl c17 (opTo_q (d := 19) rfl rfl (ev_eql rfl rfl)) ?_
                        refine awpl_op rfl (opTo_q (d := 20) rfl rfl (ev_pick_f rfl c17)) ?_
                        refine awpl_op rfl (opTo_q (d := 21) rfl rfl ev_move) ?_
                        refine bool_split (((v11.toNat : Int) == 45)) (fun c18 => ?_) (fun c18 => ?_)
                        · replace hr := cond_t c18 hr
                          refine awpl_no (d := 21) rfl rfl rfl c18 ?_
                          refine awpl_no (d := 21) rfl rfl rfl c18 ?_
                          refine awpl_op rfl (opTo_q (d := 24) rfl rfl (ev_pick_t rfl c18)) ?_
                          refine awpl_op rfl (opTo_q (d := 2) rfl rfl ev_assign) ?_
                          refine awpl_nil ?_
                          cases hr
                          exact joinK_normal _ rfl (frLe_cons rfl frLe_nil) (stoLe_cons rfl (stoLe_cons rfl (stoLe_cons rfl (stoLe_cons rfl (stoLe_cons rfl (stoLe_cons rfl (stoLe_cons rfl (stoLe_cons rfl stoLe_nil))))))))
                        · replace hr := cond_f c18 hr
                          refine awpl_yes (d := 21) rfl rfl rfl c18 (opTo_q (d := 22) rfl rfl ev_move) ?_
                          refine awpl_yes (d := 21) rfl rfl rfl c18 (opTo_q (d := 23) rfl rfl (ev_eql rfl rfl)) ?_
                          refine awpl_op rfl (opTo_q (d := 24) rfl rfl (ev_pick_f rfl c18)) ?_
                          refine awpl_op rfl (opTo_q (d := 2) rfl rfl ev_assign) ?_
                          refine awpl_nil ?_
                          cases hr
                          exact joinK_normal _ rfl (frLe_cons rfl frLe_nil) (stoLe_cons rfl (stoLe_cons rfl (stoLe_cons rfl (stoLe_cons rfl (stoLe_cons rfl (stoLe_cons rfl (stoLe_cons rfl (stoLe_cons rfl stoLe_nil))))))))
                    · replace hr := cond_f c16 hr
                      refine awpl_no (d := 12) rfl rfl rfl c16 ?_
                      refine awpl_no (d := 12) rfl rfl rfl c16 ?_
                      refine awpl_yes (d := 9) rfl rfl rfl c15 (opTo_q (d := 15) rfl rfl (ev_pick_f rfl c16)) ?_
                      refine awpl_op rfl (opTo_q (d := 16) rfl rfl (ev_pick_f rfl c15)) ?_
                      refine awpl_op rfl (opTo_q (d := 17) rfl rfl ev_move) ?_
                      refine awpl_yes (d := 17) rfl rfl rfl rfl (opTo_q (d := 18) rfl rfl ev_move) ?_
                      refine awpl_yes (d := 17) rfl rfl rfl rfl (opTo_q (d := 19) rfl rfl (ev_eql rfl rfl)) ?_
                      refine awpl_op rfl (opTo_q (d := 20) rfl rfl (ev_pick_f rfl rfl)) ?_
                      refine awpl_op rfl (opTo_q (d := 21) rfl rfl ev_move) ?_
                      refine bool_split (((v11.toNat : Int) == 45)) (fun c19 => ?_) (fun c19 => ?_)
                      · replace hr := cond_t c19 hr
                        refine awpl_no (d := 21) rfl rfl rfl c19 ?_
                        refine awpl_no (d := 21) rfl rfl rfl c19 ?_
                        refine awpl_op rfl (opTo_q (d := 24) rfl rfl (ev_pick_t rfl c19)) ?_
                        refine awpl_op rfl (opTo_q (d := 2) rfl rfl ev_assign) ?_
                        refine awpl_nil ?_
                        cases hr
                        exact joinK_normal _ rfl (frLe_cons rfl frLe_nil) (stoLe_cons rfl (stoLe_cons rfl (stoLe_cons rfl (stoLe_cons rfl (stoLe_cons rfl (stoLe_cons rfl (stoLe_cons rfl (stoLe_cons rfl stoLe_nil))))))))
                      · replace hr := cond_f c19 hr
                        refine awpl_yes (d := 21) rfl rfl rfl c19 (opTo_q (d := 22) rfl rfl ev_move) ?_
                        refine awpl_yes (d := 21) rfl rfl rfl c19 (opTo_q (d := 23) rfl rfl (ev_eql rfl rfl)) ?_
                        refine awpl_op rfl (opTo_q (d := 24) rfl rfl (ev_pick_f rfl c19)) ?_
                        refine awpl_op rfl (opTo_q (d := 2) rfl rfl ev_assign) ?_
                        refine awpl_nil ?_
                        cases hr
                        exact joinK_normal _ rfl (frLe_cons rfl frLe_nil) (stoLe_cons rfl (stoLe_cons rfl (stoLe_cons rfl (stoLe_cons rfl (stoLe_cons rfl (stoLe_cons rfl (stoLe_cons rfl (stoLe_cons rfl stoLe_nil))))))))
                · replace hr := cond_f c14 hr
                  refine awpl_no (d := 5) rfl rfl rfl c14 ?_
                  refine awpl_no (d := 5) rfl rfl rfl c14 ?_
                  refine awpl_op rfl (opTo_q (d := 8) rfl rfl (ev_pick_f rfl c14)) ?_
                  refine awpl_op rfl (opTo_q (d := 9) rfl rfl ev_move) ?_
                  refine awpl_yes (d := 9) rfl rfl rfl rfl (opTo_q (d := 10) rfl rfl ev_move) ?_
                  refine awpl_yes (d := 9) rfl rfl rfl rfl (opTo_q (d := 11) rfl rfl (ev_geq rfl rfl)) ?_
                  refine awpl_yes (d := 9) rfl rfl rfl rfl (opTo_q (d := 12) rfl rfl ev_move) ?_
                  refine bool_split (decide (48 ≤ (v11.toNat : Int))) (fun c20 => ?_) (fun c20 => ?_)
                  · replace hr := cond_t c20 hr
                    refine awpl_yes (d := 12) rfl rfl rfl c20 (opTo_q (d := 13) rfl rfl ev_move) ?_
                    refine awpl_yes (d := 12) rfl rfl rfl c20 (opTo_q (d := 14) rfl rfl (ev_leq rfl rfl)) ?_
                    refine awpl_yes (d := 9) rfl rfl rfl rfl (opTo_q (d := 15) rfl rfl (ev_pick_t rfl c20)) ?_
                    refine awpl_op rfl (opTo_q (d := 16) rfl rfl (ev_pick_f rfl rfl)) ?_
                    refine awpl_op rfl (opTo_q (d := 17) rfl rfl ev_move) ?_
                    refine bool_split (decide ((v11.toNat : Int) ≤ 57)) (fun c21 => ?_) (fun c21 => ?_)
                    · replace hr := cond_t c21 hr
                      refine awpl_no (d := 17) rfl rfl rfl c21 ?_
                      refine awpl_no (d := 17) rfl rfl rfl c21 ?_
                      refine awpl_op rfl (opTo_q (d := 20) rfl rfl (ev_pick_t rfl c21)) ?_
                      refine awpl_op rfl (opTo_q (d := 21) rfl rfl ev_move) ?_
                      refine awpl_no (d := 21) rfl rfl rfl rfl ?_
                      refine awpl_no (d := 21) rfl rfl rfl rfl ?_
                      refine awpl_op rfl (opTo_q (d := 24) rfl rfl (ev_pick_t rfl rfl)) ?_
                      refine awpl_op rfl (opTo_q (d := 2) rfl rfl ev_assign) ?_
                      refine awpl_nil ?_
                      cases hr
                      exact joinK_normal _ rfl (frLe_cons rfl frLe_nil) (stoLe_cons rfl (stoLe_cons rfl (stoLe_cons rfl (stoLe_cons rfl (stoLe_cons rfl (stoLe_cons rfl (stoLe_cons rfl (stoLe_cons rfl stoLe_nil))))))))
                    · replace hr := cond_f c21 hr
                      refine awpl_yes (d := 17) rfl rfl rfl c21 (opTo_q (d := 18) rfl rfl ev_move) ?_
                      refine awpl_yes (d := 17) rfl rfl rfl c21 (opTo_q (d := 19) rfl rfl (ev_eql rfl rfl)) ?_
                      refine awpl_op rfl (opTo_q (d := 20) rfl rfl (ev_pick_f rfl c21)) ?_
                      refine awpl_op rfl (opTo_q (d := 21) rfl rfl ev_move) ?_
                      refine bool_split (((v11.toNat : Int) == 45)) (fun c22 => ?_) (fun c22 => ?_)
                      · replace hr := cond_t c22 hr
                        refine awpl_no (d := 21) rfl rfl rfl c22 ?_
                        refine awpl_no (d := 21) rfl rfl rfl c22 ?_
                        refine awpl_op rfl (opTo_q (d := 24) rfl rfl (ev_pick_t rfl c22)) ?_
                        refine awpl_op rfl (opTo_q (d := 2) rfl rfl ev_assign) ?_
                        refine awpl_nil ?_
                        cases hr
                        exact joinK_normal _ rfl (frLe_cons rfl frLe_nil) (stoLe_cons rfl (stoLe_cons rfl (stoLe_cons rfl (stoLe_cons rfl (stoLe_cons rfl (stoLe_cons rfl (stoLe_cons rfl (stoLe_cons rfl stoLe_nil))))))))
                      · replace hr := cond_f c22 hr
                        refine awpl_yes (d := 21) rfl rfl rfl c22 (opTo_q (d := 22) rfl rfl ev_move) ?_
                        refine awpl_yes (d := 21) rfl rfl rfl c22 (opTo_q (d := 23) rfl rfl (ev_eql rfl rfl)) ?_
                        refine awpl_op rfl (opTo_q (d := 24) rfl rfl (ev_pick_f rfl c22)) ?_
                        refine awpl_op rfl (opTo_q (d := 2) rfl rfl ev_assign) ?_
                        refine awpl_nil ?_
                        cases hr
                        exact joinK_normal _ rfl (frLe_cons rfl frLe_nil) (stoLe_cons rfl (stoLe_cons rfl (stoLe_cons rfl (stoLe_cons rfl (stoLe_cons rfl (stoLe_cons rfl (stoLe_cons rfl (stoLe_cons rfl stoLe_nil))))))))
                  · replace hr := cond_f c20 hr
                    refine awpl_no (d := 12) rfl rfl rfl c20 ?_
                    refine awpl_no (d := 12) rfl rfl rfl c20 ?_
                    refine awpl_yes (d := 9) rfl rfl rfl rfl (opTo_q (d := 15) rfl rfl (ev_pick_f rfl c20)) ?_
                    refine awpl_op rfl (opTo_q (d := 16) rfl rfl (ev_pick_f rfl rfl)) ?_
                    refine awpl_op rfl (opTo_q (d := 17) rfl rfl ev_move) ?_
                    refine awpl_yes (d := 17) rfl rfl rfl rfl (opTo_q (d := 18) rfl rfl ev_move) ?_
                    refine awpl_yes (d := 17) rfl rfl rfl rfl (opTo_q (d := 19) rfl rfl (ev_eql rfl rfl)) ?_
                    refine awpl_op rfl (opTo_q (d := 20) rfl rfl (ev_pick_f rfl rfl)) ?_
                    refine awpl_op rfl (opTo_q (d := 21) rfl rfl ev_move) ?_
                    refine bool_split (((v11.toNat : Int) == 45)) (fun c23 => ?_) (fun c23 => ?_)
                    · replace hr := cond_t c23 hr
                      refine awpl_no (d := 21) rfl rfl rfl c23 ?_
                      refine awpl_no (d := 21) rfl rfl rfl c23 ?_
                      refine awpl_op rfl (opTo_q (d := 24) rfl rfl (ev_pick_t rfl c23)) ?_
                      refine awpl_op rfl (opTo_q (d := 2) rfl rfl ev_assign) ?_
                      refine awpl_nil ?_
                      cases hr
                      exact joinK_normal _ rfl (frLe_cons rfl frLe_nil) (stoLe_cons rfl (stoLe_cons rfl (stoLe_cons rfl (stoLe_cons rfl (stoLe_cons rfl (stoLe_cons rfl (stoLe_cons rfl (stoLe_cons rfl stoLe_nil))))))))
                    · replace hr := cond_f c23 hr
                      refine awpl_yes (d := 21) rfl rfl rfl c23 (opTo_q (d := 22) rfl rfl ev_move) ?_
                      refine awpl_yes (d := 21) rfl rfl rfl c23 (opTo_q (d := 23) rfl rfl (ev_eql rfl rfl)) ?_
                      refine awpl_op rfl (opTo_q (d := 24) rfl rfl (ev_pick_f rfl c23)) ?_
                      refine awpl_op rfl (opTo_q (d := 2) rfl rfl ev_assign) ?_
                      refine awpl_nil ?_
                      cases hr
                      exact joinK_normal _ rfl (frLe_cons rfl frLe_nil) (stoLe_cons rfl (stoLe_cons rfl (stoLe_cons rfl (stoLe_cons rfl (stoLe_cons rfl (stoLe_cons rfl (stoLe_cons rfl (stoLe_cons rfl stoLe_nil))))))))
              · rintro _ rfl
                have hr := hy
                clear hx hy
                refine awp_ret ?_
                refine inlK (cs := [.bo j13]) (fr'' := [(0, .s a0), (1, .fn (.func 82) [] []), (7, .i ((a0.length : Int))), (8, .i s5)]) (σ'' := [(499999, .sus g0.w.heap.size ds4), (400000, .hold (.s a0) (T4.getD 0 undef)), (400011, .hold (.bo (decide ((a0.length : Int) ≤ 60))) (T4.getD 11 undef))]) (.inl rfl) frLe_refl stoLe_refl (.cons (res_tmp rfl) .nil) (.cons rfl (.cons rfl (.cons rfl (.cons rfl .nil)))) rfl (stoLe_cons rfl (stoLe_cons rfl (stoLe_cons rfl stoLe_nil))) ?_
                refine awpl_op rfl (opTo_q (d := 16) rfl rfl (ev_not rfl)) ?_
                refine awpl_nil ?_
                refine kthen_normal ?_
                refine awp_cond rfl (fun c24 => ?_) (fun c24 => ?_)
                · replace hr := cond_t c24 hr
                  refine awp_seq ?_
                  refine awp_region ?_
                  refine awpl_op rfl (opTo_q (d := 4) rfl rfl ev_assign) ?_
                  refine awpl_nil ?_
                  refine kthen_normal ?_
                  refine awp_ret ?_
                  refine kblock_ret ?_
                  refine kthen_ret ?_
                  cases hr
                  exact ⟨by simp, rfl, (frLe_cons rfl frLe_nil), (stoLe_cons rfl (stoLe_cons rfl (stoLe_cons rfl stoLe_nil)))⟩
                · replace hr := cond_f c24 hr
                  refine awp_skip ?_
                  refine kblock_normal ?_
                  refine kthen_normal ?_
                  refine awp_region ?_
                  refine awpl_op rfl (opTo_q (d := 17) rfl rfl (ev_add rfl rfl)) ?_
                  refine awpl_op rfl (opTo_q (d := 8) rfl rfl ev_move) ?_
                  refine awpl_nil ?_
                  cases hr
                  exact ⟨rfl, (frLe_cons rfl (frLe_cons rfl (frLe_cons rfl (frLe_cons rfl frLe_nil)))), (stoLe_cons rfl (stoLe_cons rfl (stoLe_cons rfl stoLe_nil)))⟩
            · replace hr := cond_f c10 hr
              refine awp_exit ?_
              refine kthen_exit ?_
              cases hr
              exact ⟨by simp, rfl, frLe_nil, (stoLe_cons rfl (stoLe_cons rfl (stoLe_cons rfl stoLe_nil)))⟩
          · intro e fr2 st2 hq
            rcases o8 with b6 | b7
            · obtain ⟨rfl, hf, hs⟩ := hq
              replace hr := elim_l hr
              refine kblock_exit ?_
              refine kthen_normal ?_
              refine awp_le hf hs ?_
              refine awp_seq ?_
              refine awp_region ?_
              refine awpl_op rfl (opTo_q (d := 4) rfl rfl ev_assign) ?_
              refine awpl_nil ?_
              refine kthen_normal ?_
              refine awp_ret ?_
              refine inlK (cs := [.bo true]) (fr'' := [(0, .s a0), (11, .bo (decide ((a0.length : Int) ≤ 60)))]) (σ'' := []) (.inl rfl) frLe_refl stoLe_refl (.cons (res_tmp rfl) .nil) (.cons rfl (.cons rfl .nil)) rfl stoLe_nil ?_
              cases hr
              exact jump4 _ _ _ rfl (frLe_cons rfl (frLe_cons rfl (frLe_cons rfl frLe_nil))) stoLe_nil
            · obtain ⟨rfl, hf, hs⟩ := hq
              replace hr := elim_r hr
              refine kblock_ret ?_
              refine kthen_ret ?_
              refine inlK (cs := [.bo false]) (fr'' := [(0, .s a0), (11, .bo (decide ((a0.length : Int) ≤ 60)))]) (σ'' := []) (.inl rfl) hf hs (.cons (res_tmp rfl) .nil) (.cons rfl (.cons rfl .nil)) rfl stoLe_nil ?_
              cases hr
              exact jump4 _ _ _ rfl (frLe_cons rfl (frLe_cons rfl (frLe_cons rfl frLe_nil))) stoLe_nil
        · rintro _ rfl
          have hr := hy
          clear hx hy
          refine bool_split (decide ((a0.length : Int) ≤ 60)) (fun c25 => ?_) (fun c25 => ?_)
          · replace hr := cond_t c25 hr
            refine awpl_op rfl (opTo_q (d := 15) rfl rfl (ev_pick_t rfl c25)) ?_
            refine awpl_op rfl (opTo_q (d := 16) rfl rfl ev_move) ?_
            refine bool_split j4 (fun c26 => ?_) (fun c26 => ?_)
            · replace hr := cond_t c26 hr
              refine awpl_yes (d := 16) rfl rfl rfl c26 (opTo_q (d := 17) rfl rfl ev_move) ?_
              obtain ⟨v27, h28, hr⟩ := bind_some hr
              refine awpl_yes (d := 16) rfl rfl rfl c26 (opTo_call (k := 18) (strings_HasPrefix_run a0 (([46] : Str)) v27 h28) rfl rfl) ?_
              refine awpl_yes (d := 16) rfl rfl rfl c26 (opTo_q (d := 19) rfl rfl (ev_not rfl)) ?_
              refine awpl_op rfl (opTo_q (d := 20) rfl rfl (ev_pick_t rfl c26)) ?_
              refine awpl_op rfl (opTo_q (d := 21) rfl rfl ev_move) ?_
              refine bool_split ((!v27)) (fun c29 => ?_) (fun c29 => ?_)
              · replace hr := cond_t c29 hr
                refine awpl_yes (d := 21) rfl rfl rfl c29 (opTo_q (d := 22) rfl rfl ev_move) ?_
                obtain ⟨v30, h31, hr⟩ := bind_some hr
                refine awpl_yes (d := 21) rfl rfl rfl c29 (opTo_call (k := 23) (strings_HasSuffix_run a0 (([46] : Str)) v30 h31) rfl rfl) ?_
                refine awpl_yes (d := 21) rfl rfl rfl c29 (opTo_q (d := 24) rfl rfl (ev_not rfl)) ?_
                refine awpl_op rfl (opTo_q (d := 25) rfl rfl (ev_pick_t rfl c29)) ?_
                refine awpl_op rfl (opTo_q (d := 26) rfl rfl ev_move) ?_
                refine bool_split ((!v30)) (fun c32 => ?_) (fun c32 => ?_)
                · replace hr := cond_t c32 hr
                  refine awpl_yes (d := 26) rfl rfl rfl c32 (opTo_q (d := 27) rfl rfl ev_move) ?_
                  obtain ⟨v33, h34, hr⟩ := bind_some hr
                  refine awpl_yes (d := 26) rfl rfl rfl c32 (opTo_call (k := 28) (strings_Contains_run a0 (([46, 46] : Str)) v33 h34) rfl rfl) ?_
                  refine awpl_yes (d := 26) rfl rfl rfl c32 (opTo_q (d := 29) rfl rfl (ev_not rfl)) ?_
                  refine awpl_op rfl (opTo_q (d := 30) rfl rfl (ev_pick_t rfl c32)) ?_
                  refine awpl_op rfl (opTo_q (d := 2) rfl rfl ev_assign) ?_
                  refine awpl_nil ?_
                  cases hr
                  exact joinK_normal _ rfl (frLe_cons rfl frLe_nil) stoLe_nil
                · replace hr := cond_f c32 hr
                  refine awpl_no (d := 26) rfl rfl rfl c32 ?_
                  refine awpl_no (d := 26) rfl rfl rfl c32 ?_
                  refine awpl_no (d := 26) rfl rfl rfl c32 ?_
                  refine awpl_op rfl (opTo_q (d := 30) rfl rfl (ev_pick_f rfl c32)) ?_
                  refine awpl_op rfl (opTo_q (d := 2) rfl rfl ev_assign) ?_
                  refine awpl_nil ?_
                  cases hr
                  exact joinK_normal _ rfl (frLe_cons rfl frLe_nil) stoLe_nil
              · replace hr := cond_f c29 hr
                refine awpl_no (d := 21) rfl rfl rfl c29 ?_
                refine awpl_no (d := 21) rfl rfl rfl c29 ?_
                refine awpl_no (d := 21) rfl rfl rfl c29 ?_
                refine awpl_op rfl (opTo_q (d := 25) rfl rfl (ev_pick_f rfl c29)) ?_
                refine awpl_op rfl (opTo_q (d := 26) rfl rfl ev_move) ?_
                refine awpl_no (d := 26) rfl rfl rfl rfl ?_
                refine awpl_no (d := 26) rfl rfl rfl rfl ?_
                refine awpl_no (d := 26) rfl rfl rfl rfl ?_
                refine awpl_op rfl (opTo_q (d := 30) rfl rfl (ev_pick_f rfl rfl)) ?_
                refine awpl_op rfl (opTo_q (d := 2) rfl rfl ev_assign) ?_
                refine awpl_nil ?_
                cases hr
                exact joinK_normal _ rfl (frLe_cons rfl frLe_nil) stoLe_nil
            · replace hr := cond_f c26 hr
              refine awpl_no (d := 16) rfl rfl rfl c26 ?_
              refine awpl_no (d := 16) rfl rfl rfl c26 ?_
              refine awpl_no (d := 16) rfl rfl rfl c26 ?_
              refine awpl_op rfl (opTo_q (d := 20) rfl rfl (ev_pick_f rfl c26)) ?_
              refine awpl_op rfl (opTo_q (d := 21) rfl rfl ev_move) ?_
              refine awpl_no (d := 21) rfl rfl rfl rfl ?_
              refine awpl_no (d := 21) rfl rfl rfl rfl ?_
              refine awpl_no (d := 21) rfl rfl rfl rfl ?_
              refine awpl_op rfl (opTo_q (d := 25) rfl rfl (ev_pick_f rfl rfl)) ?_
              refine awpl_op rfl (opTo_q (d := 26) rfl rfl ev_move) ?_
              refine awpl_no (d := 26) rfl rfl rfl rfl ?_
              refine awpl_no (d := 26) rfl rfl rfl rfl ?_
              refine awpl_no (d := 26) rfl rfl rfl rfl ?_
              refine awpl_op rfl (opTo_q (d := 30) rfl rfl (ev_pick_f rfl rfl)) ?_
              refine awpl_op rfl (opTo_q (d := 2) rfl rfl ev_assign) ?_
              refine awpl_nil ?_
              cases hr
              exact joinK_normal _ rfl (frLe_cons rfl frLe_nil) stoLe_nil
          · replace hr := cond_f c25 hr
            refine awpl_op rfl (opTo_q (d := 15) rfl rfl (ev_pick_f rfl c25)) ?_
            refine awpl_op rfl (opTo_q (d := 16) rfl rfl ev_move) ?_
            refine awpl_no (d := 16) rfl rfl rfl rfl ?_
            refine awpl_no (d := 16) rfl rfl rfl rfl ?_
            refine awpl_no (d := 16) rfl rfl rfl rfl ?_
            refine awpl_op rfl (opTo_q (d := 20) rfl rfl (ev_pick_f rfl rfl)) ?_
            refine awpl_op rfl (opTo_q (d := 21) rfl rfl ev_move) ?_
            refine awpl_no (d := 21) rfl rfl rfl rfl ?_
            refine awpl_no (d := 21) rfl rfl rfl rfl ?_
            refine awpl_no (d := 21) rfl rfl rfl rfl ?_
            refine awpl_op rfl (opTo_q (d := 25) rfl rfl (ev_pick_f rfl rfl)) ?_
            refine awpl_op rfl (opTo_q (d := 26) rfl rfl ev_move) ?_
            refine awpl_no (d := 26) rfl rfl rfl rfl ?_
            refine awpl_no (d := 26) rfl rfl rfl rfl ?_
            refine awpl_no (d := 26) rfl rfl rfl rfl ?_
            refine awpl_op rfl (opTo_q (d := 30) rfl rfl (ev_pick_f rfl rfl)) ?_
            refine awpl_op rfl (opTo_q (d := 2) rfl rfl ev_assign) ?_
            refine awpl_nil ?_
            cases hr
            exact joinK_normal _ rfl (frLe_cons rfl frLe_nil) stoLe_nil
      · replace hr := cond_f c3 hr
        refine awpl_no (d := 11) rfl rfl rfl c3 ?_
        refine awpl_no (d := 11) rfl rfl rfl c3 ?_
        refine awpl_no (d := 11) rfl rfl rfl c3 ?_
        refine awpl_op rfl (opTo_q (d := 15) rfl rfl (ev_pick_f rfl c3)) ?_
        refine awpl_op rfl (opTo_q (d := 16) rfl rfl ev_move) ?_
        refine awpl_no (d := 16) rfl rfl rfl rfl ?_
        refine awpl_no (d := 16) rfl rfl rfl rfl ?_
        refine awpl_no (d := 16) rfl rfl rfl rfl ?_
        refine awpl_op rfl (opTo_q (d := 20) rfl rfl (ev_pick_f rfl rfl)) ?_
        refine awpl_op rfl (opTo_q (d := 21) rfl rfl ev_move) ?_
        refine awpl_no (d := 21) rfl rfl rfl rfl ?_
        refine awpl_no (d := 21) rfl rfl rfl rfl ?_
        refine awpl_no (d := 21) rfl rfl rfl rfl ?_
        refine awpl_op rfl (opTo_q (d := 25) rfl rfl (ev_pick_f rfl rfl)) ?_
        refine awpl_op rfl (opTo_q (d := 26) rfl rfl ev_move) ?_
        refine awpl_no (d := 26) rfl rfl rfl rfl ?_
        refine awpl_no (d := 26) rfl rfl rfl rfl ?_
        refine awpl_no (d := 26) rfl rfl rfl rfl ?_
        refine awpl_op rfl (opTo_q (d := 30) rfl rfl (ev_pick_f rfl rfl)) ?_
        refine awpl_op rfl (opTo_q (d := 2) rfl rfl ev_assign) ?_
        refine awpl_nil ?_
        cases hr
        exact joinK_normal _ rfl (frLe_cons rfl frLe_nil) stoLe_nil
    · replace hr := cond_f c2 hr
      refine awpl_no (d := 6) rfl rfl rfl c2 ?_
      refine awpl_no (d := 6) rfl rfl rfl c2 ?_
      refine awpl_no (d := 6) rfl rfl rfl c2 ?_
      refine awpl_op rfl (opTo_q (d := 10) rfl rfl (ev_pick_f rfl c2)) ?_
      refine awpl_op rfl (opTo_q (d := 11) rfl rfl ev_move) ?_
      refine awpl_no (d := 11) rfl rfl rfl rfl ?_
      refine awpl_no (d := 11) rfl rfl rfl rfl ?_
      refine awpl_no (d := 11) rfl rfl rfl rfl ?_
      refine awpl_op rfl (opTo_q (d := 15) rfl rfl (ev_pick_f rfl rfl)) ?_
      refine awpl_op rfl (opTo_q (d := 16) rfl rfl ev_move) ?_
      refine awpl_no (d := 16) rfl rfl rfl rfl ?_
      refine awpl_no (d := 16) rfl rfl rfl rfl ?_
      refine awpl_no (d := 16) rfl rfl rfl rfl ?_
      refine awpl_op rfl (opTo_q (d := 20) rfl rfl (ev_pick_f rfl rfl)) ?_
      refine awpl_op rfl (opTo_q (d := 21) rfl rfl ev_move) ?_
      refine awpl_no (d := 21) rfl rfl rfl rfl ?_
      refine awpl_no (d := 21) rfl rfl rfl rfl ?_
      refine awpl_no (d := 21) rfl rfl rfl rfl ?_
      refine awpl_op rfl (opTo_q (d := 25) rfl rfl (ev_pick_f rfl rfl)) ?_
      refine awpl_op rfl (opTo_q (d := 26) rfl rfl ev_move) ?_
      refine awpl_no (d := 26) rfl rfl rfl rfl ?_
      refine awpl_no (d := 26) rfl rfl rfl rfl ?_
      refine awpl_no (d := 26) rfl rfl rfl rfl ?_
      refine awpl_op rfl (opTo_q (d := 30) rfl rfl (ev_pick_f rfl rfl)) ?_
      refine awpl_op rfl (opTo_q (d := 2) rfl rfl ev_assign) ?_
      refine awpl_nil ?_
      cases hr
      exact joinK_normal _ rfl (frLe_cons rfl frLe_nil) stoLe_nil
  · rintro _ rfl
    have hr := hy
    clear hx hy
    refine awp_ret ?_
    cases hr
    exact kret' rfl (.cons (res_tmp rfl) .nil) rfl
end Go.Proofs.Ytlpmbmilnoncdaa

/- A function of the program computes what its Lean function does. Written by program. -/
namespace Go.Proofs.Ytlpmbmilnoncdaa
open Go.RowKit
set_option maxRecDepth 100000
set_option maxHeartbeats 40000000
set_option linter.unusedVariables false
theorem envelope_Split_run (a0 : Str) (r : Str × Str × Bool) (hr : envelope_Split a0 = some r) : Run Try.prog 60 [.s a0] (.tup [.s r.1, .s r.2.1, .bo r.2.2]) := by
  unfold envelope_Split at hr
  refine run_of_awp (fn := Try.f60) ⟨Try.func60, rfl, by kernel_rfl⟩ rfl (fun _ => rfl) fun g0 hg => ?_
  refine awp_seq ?_
  refine awp_region ?_
  refine awpl_op rfl (opTo_q (d := 2) rfl rfl ev_assign) ?_
  refine awpl_op rfl (opTo_q (d := 3) rfl rfl ev_assign) ?_
  refine awpl_op rfl (opTo_q (d := 4) rfl rfl ev_assign) ?_
  refine awpl_nil ?_
  refine kthen_normal ?_
  refine awp_seq ?_
  refine awp_region ?_
  refine awpl_op rfl (opTo_q (d := 7) rfl rfl ev_move) ?_
  obtain ⟨v1, h2, hr⟩ := bind_some hr
  refine awpl_op rfl (opTo_call (k := 8) (strings_Cut_run a0 (([64] : Str)) v1 h2) rfl rfl) ?_
  refine awpl_op rfl (opTo_q (d := 6) rfl rfl ev_move) ?_
  refine awpl_op rfl (opTo_q (d := 9) rfl rfl (ev_extract rfl rfl)) ?_
  refine awpl_op rfl (opTo_q (d := 10) rfl rfl (ev_extract rfl rfl)) ?_
  refine awpl_op rfl (opTo_q (d := 11) rfl rfl (ev_extract rfl rfl)) ?_
  refine awpl_op rfl (opTo_q (d := 2) rfl rfl ev_assign) ?_
  refine awpl_op rfl (opTo_q (d := 3) rfl rfl ev_assign) ?_
  refine awpl_op rfl (opTo_q (d := 4) rfl rfl ev_assign) ?_
  refine awpl_nil ?_
  refine kthen_normal ?_
  refine awp_seq ?_
  refine awp_region ?_
  refine awpl_op rfl (opTo_q (d := 5) rfl rfl ev_assign) ?_
  refine awpl_nil ?_
  refine kthen_normal ?_
  obtain ⟨j3, hx, hy⟩ := bind_some hr
  refine awp_join (fun j3 => [(2, .s v1.1), (3, .s v1.2.1), (4, .bo j3)]) (fun j3 => []) (fun z => j3 = z) ?_ ?_
  · have hr := hx
    clear hx hy
    refine awp_region ?_
    refine awpl_op rfl (opTo_q (d := 12) rfl rfl ev_move) ?_
    refine awpl_op rfl (opTo_q (d := 13) rfl rfl ev_move) ?_
    refine awpl_op rfl (opTo_q (d := 14) rfl rfl ev_move) ?_
    refine awpl_op rfl (opTo_q (d := 15) rfl rfl ev_move) ?_
    refine bool_split v1.2.2 (fun c4 => ?_) (fun c4 => ?_)
    · replace hr := cond_t c4 hr
      refine awpl_yes (d := 15) rfl rfl rfl c4 (opTo_q (d := 16) rfl rfl ev_move) ?_
      refine awpl_yes (d := 15) rfl rfl rfl c4 (opTo_q (d := 17) rfl rfl (ev_sneq (a := v1.1) (b := ([] : Str)) rfl rfl)) ?_
      refine awpl_op rfl (opTo_q (d := 18) rfl rfl (ev_pick_t rfl c4)) ?_
      refine awpl_op rfl (opTo_q (d := 19) rfl rfl ev_move) ?_
      refine bool_split ((v1.1 != ([] : Str))) (fun c5 => ?_) (fun c5 => ?_)
      · replace hr := cond_t c5 hr
        refine awpl_yes (d := 19) rfl rfl rfl c5 (opTo_q (d := 20) rfl rfl ev_move) ?_
        refine awpl_yes (d := 19) rfl rfl rfl c5 (opTo_q (d := 21) rfl rfl (ev_slen rfl ty_string.u)) ?_
        refine awpl_yes (d := 19) rfl rfl rfl c5 (opTo_q (d := 22) rfl rfl (ev_leq rfl rfl)) ?_
        refine awpl_op rfl (opTo_q (d := 23) rfl rfl (ev_pick_t rfl c5)) ?_
        refine awpl_op rfl (opTo_q (d := 24) rfl rfl ev_move) ?_
        refine bool_split (decide ((v1.1.length : Int) ≤ 60)) (fun c6 => ?_) (fun c6 => ?_)
        · replace hr := cond_t c6 hr
          refine awpl_yes (d := 24) rfl rfl rfl c6 (opTo_q (d := 25) rfl rfl ev_move) ?_
          refine awpl_yes (d := 24) rfl rfl rfl c6 (opTo_q (d := 26) rfl rfl ev_move) ?_
          obtain ⟨j7, hx, hy⟩ := bind_some hr
          refine awpl_cut (fun j7 => [(3, .s v1.2.1), (12, .s v1.1), (13, .s v1.2.1), (24, .bo (decide ((v1.1.length : Int) ≤ 60))), (27, .bo j7)]) (fun j7 => []) (fun z => j7 = z) (fun jump4 => ?_) ?_
          · have hr := hx
            clear hx hy
            refine awpl_inl (fn := Try.f76) (args := [.s v1.1, .fn (.func 73) [] []]) 400000 499999 [(3, .s v1.2.1), (12, .s v1.1), (13, .s v1.2.1), (24, .bo (decide ((v1.1.length : Int) ≤ 60)))] (wanted_yes (d := 24) rfl rfl rfl c6) rfl ⟨Try.func76, rfl, by kernel_rfl⟩ rfl rfl (.cons rfl (.cons rfl (.cons rfl (.cons rfl .nil)))) fun T4 ds4 hT4 => ?_
            refine awp_seq ?_
            refine awp_region ?_
            refine awpl_op rfl (opTo_q (d := 4) rfl rfl ev_assign) ?_
            refine awpl_nil ?_
            refine kthen_normal ?_
            refine awp_seq ?_
            refine awp_seq ?_
            refine awp_region ?_
            refine awpl_op rfl (opTo_q (d := 6) rfl rfl ev_move) ?_
            refine awpl_op rfl (opTo_q (d := 7) rfl rfl (ev_slen rfl ty_string.u)) ?_
            refine awpl_op rfl (opTo_q (d := 8) rfl rfl ev_move) ?_
            refine awpl_nil ?_
            refine kthen_normal ?_
            refine awp_block ?_
            obtain ⟨o11, hl, hr⟩ := bind_some hr
            refine awp_loop (envelope_Split_l1 v1) (fun s8 => [(0, .s v1.1), (1, .fn (.func 73) [] []), (7, .i ((v1.1.length : Int))), (8, .i s8)]) (fun s8 => [(499999, .sus g0.w.heap.size ds4), (400003, .hold (.s v1.2.1) (T4.getD 3 undef)), (400012, .hold (.s v1.1) (T4.getD 12 undef)), (400013, .hold (.s v1.2.1) (T4.getD 13 undef)), (400024, .hold (.bo (decide ((v1.1.length : Int) ≤ 60))) (T4.getD 24 undef))]) (fun o => match o with | .inl b9 => At (.exit 0) [] [(499999, .sus g0.w.heap.size ds4), (400003, .hold (.s v1.2.1) (T4.getD 3 undef)), (400012, .hold (.s v1.1) (T4.getD 12 undef)), (400013, .hold (.s v1.2.1) (T4.getD 13 undef)), (400024, .hold (.bo (decide ((v1.1.length : Int) ≤ 60))) (T4.getD 24 undef))] | .inr b10 => At .ret [(4, .bo false)] [(499999, .sus g0.w.heap.size ds4), (400003, .hold (.s v1.2.1) (T4.getD 3 undef)), (400012, .hold (.s v1.1) (T4.getD 12 undef)), (400013, .hold (.s v1.2.1) (T4.getD 13 undef)), (400024, .hold (.bo (decide ((v1.1.length : Int) ≤ 60))) (T4.getD 24 undef))]) ?_ 0 hl (frLe_cons rfl (frLe_cons rfl (frLe_cons rfl (frLe_cons rfl frLe_nil)))) (stoLe_cons rfl (stoLe_cons rfl (stoLe_cons rfl (stoLe_cons rfl (stoLe_cons rfl stoLe_nil))))) ?_
            · intro s8 x12 hr
              unfold envelope_Split_l1 at hr
              refine awp_seq ?_
              refine awp_region ?_
              refine awpl_op rfl (opTo_q (d := 9) rfl rfl (ev_lss rfl rfl)) ?_
              refine awpl_nil ?_
              refine kthen_normal ?_
              refine awp_seq ?_
              refine awp_cond rfl (fun c13 => ?_) (fun c13 => ?_)
              · replace hr := cond_t c13 hr
                refine awp_skip ?_
                refine kthen_normal ?_
                refine awp_seq ?_
                refine awp_block ?_
                refine awp_seq ?_
                refine awp_region ?_
                refine awpl_op rfl (opTo_q (d := 10) rfl rfl ev_move) ?_
                refine awpl_op rfl (opTo_q (d := 5) rfl rfl ev_assign) ?_
                refine awpl_nil ?_
                refine kthen_normal ?_
                refine awp_seq ?_
                refine awp_region ?_
                refine awpl_op rfl (opTo_q (d := 11) rfl rfl ev_move) ?_
                refine awpl_op rfl (opTo_q (d := 12) rfl rfl ev_move) ?_
                refine awpl_op rfl (opTo_q (d := 13) rfl rfl ev_move) ?_
                obtain ⟨v14, h15, hr⟩ := bind_some hr
                refine awpl_op rfl (opTo_q (d := 14) rfl rfl (ev_sidx rfl rfl ty_string h15)) ?_
                refine awpl_inl (fn := Try.f73) (args := [.u8 v14]) 600000 699999 [(0, .s v1.1), (1, .fn (.func 73) [] []), (7, .i ((v1.1.length : Int))), (8, .i s8)] (wanted_plain rfl) rfl ⟨Try.func73, rfl, by kernel_rfl⟩ rfl rfl (.cons rfl (.cons rfl (.cons rfl (.cons rfl .nil)))) fun T6 ds6 hT6 => ?_
                refine awp_seq ?_
                refine awp_region ?_
                refine awpl_op rfl (opTo_q (d := 2) rfl rfl ev_assign) ?_
                refine awpl_nil ?_
                refine kthen_normal ?_
                obtain ⟨j16, hx, hy⟩ := bind_some hr
                refine awp_join (fun j16 => [(2, .bo j16)]) (fun j16 => [(699999, .sus g0.w.heap.size ds6), (600000, .hold (.s v1.1) (T6.getD 0 undef)), (600001, .hold (.fn (.func 73) [] []) (T6.getD 1 undef)), (600007, .hold (.i ((v1.1.length : Int))) (T6.getD 7 undef)), (600008, .hold (.i s8) (T6.getD 8 undef)), (499999, .sus g0.w.heap.size ds4), (400003, .hold (.s v1.2.1) (T4.getD 3 undef)), (400012, .hold (.s v1.1) (T4.getD 12 undef)), (400013, .hold (.s v1.2.1) (T4.getD 13 undef)), (400024, .hold (.bo (decide ((v1.1.length : Int) ≤ 60))) (T4.getD 24 undef))]) (fun z => j16 = z) ?_ ?_
                · have hr := hx
                  clear hx hy
                  refine awp_region ?_
                  refine awpl_op rfl (opTo_q (d := 3) rfl rfl ev_move) ?_
                  obtain ⟨v17, h18, hr⟩ := bind_some hr
                  refine awpl_op rfl (opTo_call (k := 4) (basic_Letter_run v14 v17 h18) rfl rfl) ?_
                  refine awpl_op rfl (opTo_q (d := 5) rfl rfl ev_move) ?_
                  refine bool_split v17 (fun c19 => ?_) (fun c19 => ?_)
                  · replace hr := cond_t c19 hr
                    refine awpl_no (d := 5) rfl rfl rfl c19 ?_
                    refine awpl_no (d := 5) rfl rfl rfl c19 ?_
                    refine awpl_no (d := 5) rfl rfl rfl c19 ?_
                    refine awpl_op rfl (opTo_q (d := 9) rfl rfl (ev_pick_t rfl c19)) ?_
                    refine awpl_op rfl (opTo_q (d := 2) rfl rfl ev_assign) ?_
                    refine awpl_nil ?_
                    cases hr
                    exact joinK_normal _ rfl (frLe_cons rfl frLe_nil) (stoLe_cons rfl (stoLe_cons rfl (stoLe_cons rfl (stoLe_cons rfl (stoLe_cons rfl (stoLe_cons rfl (stoLe_cons rfl (stoLe_cons rfl (stoLe_cons rfl (stoLe_cons rfl stoLe_nil))))))))))
                  · replace hr := cond_f c19 hr
                    refine awpl_yes (d := 5) rfl rfl rfl c19 (opTo_q (d := 6) rfl rfl ev_move) ?_
                    obtain ⟨v20, h21, hr⟩ := bind_some hr
                    refine awpl_yes (d := 5) rfl rfl rfl c19 (opTo_call (k := 7) (strings_IndexByte_run (([45, 95, 46, 43, 61] : Str)) v14 v20 h21) rfl rfl) ?_
                    refine awpl_yes (d := 5) rfl rfl rfl c19 (opTo_q (d := 8) rfl rfl (ev_geq rfl rfl)) ?_
                    refine awpl_op rfl (opTo_q (d := 9) rfl rfl (ev_pick_f rfl c19)) ?_
                    refine awpl_op rfl (opTo_q (d := 2) rfl rfl ev_assign) ?_
                    refine awpl_nil ?_
                    cases hr
                    exact joinK_normal _ rfl (frLe_cons rfl frLe_nil) (stoLe_cons rfl (stoLe_cons rfl (stoLe_cons rfl (stoLe_cons rfl (stoLe_cons rfl (stoLe_cons rfl (stoLe_cons rfl (stoLe_cons rfl (stoLe_cons rfl (stoLe_cons rfl stoLe_nil))))))))))
                · rintro _ rfl
                  have hr := hy
                  clear hx hy
                  refine awp_ret ?_
                  refine inlK (cs := [.bo j16]) (fr'' := [(0, .s v1.1), (1, .fn (.func 73) [] []), (7, .i ((v1.1.length : Int))), (8, .i s8)]) (σ'' := [(499999, .sus g0.w.heap.size ds4), (400003, .hold (.s v1.2.1) (T4.getD 3 undef)), (400012, .hold (.s v1.1) (T4.getD 12 undef)), (400013, .hold (.s v1.2.1) (T4.getD 13 undef)), (400024, .hold (.bo (decide ((v1.1.length : Int) ≤ 60))) (T4.getD 24 undef))]) (.inl rfl) frLe_refl stoLe_refl (.cons (res_tmp rfl) .nil) (.cons rfl (.cons rfl (.cons rfl (.cons rfl .nil)))) rfl (stoLe_cons rfl (stoLe_cons rfl (stoLe_cons rfl (stoLe_cons rfl (stoLe_cons rfl stoLe_nil))))) ?_
                  refine awpl_op rfl (opTo_q (d := 16) rfl rfl (ev_not rfl)) ?_
                  refine awpl_nil ?_
                  refine kthen_normal ?_
                  refine awp_cond rfl (fun c22 => ?_) (fun c22 => ?_)
                  · replace hr := cond_t c22 hr
                    refine awp_seq ?_
                    refine awp_region ?_
                    refine awpl_op rfl (opTo_q (d := 4) rfl rfl ev_assign) ?_
                    refine awpl_nil ?_
                    refine kthen_normal ?_
                    refine awp_ret ?_
                    refine kblock_ret ?_
                    refine kthen_ret ?_
                    cases hr
                    exact ⟨by simp, rfl, (frLe_cons rfl frLe_nil), (stoLe_cons rfl (stoLe_cons rfl (stoLe_cons rfl (stoLe_cons rfl (stoLe_cons rfl stoLe_nil)))))⟩
                  · replace hr := cond_f c22 hr
                    refine awp_skip ?_
                    refine kblock_normal ?_
                    refine kthen_normal ?_
                    refine awp_region ?_
                    refine awpl_op rfl (opTo_q (d := 17) rfl rfl (ev_add rfl rfl)) ?_
                    refine awpl_op rfl (opTo_q (d := 8) rfl rfl ev_move) ?_
                    refine awpl_nil ?_
                    cases hr
                    exact ⟨rfl, (frLe_cons rfl (frLe_cons rfl (frLe_cons rfl (frLe_cons rfl frLe_nil)))), (stoLe_cons rfl (stoLe_cons rfl (stoLe_cons rfl (stoLe_cons rfl (stoLe_cons rfl stoLe_nil)))))⟩
              · replace hr := cond_f c13 hr
                refine awp_exit ?_
                refine kthen_exit ?_
                cases hr
                exact ⟨by simp, rfl, frLe_nil, (stoLe_cons rfl (stoLe_cons rfl (stoLe_cons rfl (stoLe_cons rfl (stoLe_cons rfl stoLe_nil)))))⟩
            · intro e fr2 st2 hq
              rcases o11 with b9 | b10
              · obtain ⟨rfl, hf, hs⟩ := hq
                replace hr := elim_l hr
                refine kblock_exit ?_
                refine kthen_normal ?_
                refine awp_le hf hs ?_
                refine awp_seq ?_
                refine awp_region ?_
                refine awpl_op rfl (opTo_q (d := 4) rfl rfl ev_assign) ?_
                refine awpl_nil ?_
                refine kthen_normal ?_
                refine awp_ret ?_
                refine inlK (cs := [.bo true]) (fr'' := [(3, .s v1.2.1), (12, .s v1.1), (13, .s v1.2.1), (24, .bo (decide ((v1.1.length : Int) ≤ 60)))]) (σ'' := []) (.inl rfl) frLe_refl stoLe_refl (.cons (res_tmp rfl) .nil) (.cons rfl (.cons rfl (.cons rfl (.cons rfl .nil)))) rfl stoLe_nil ?_
                cases hr
                exact jump4 _ _ _ rfl (frLe_cons rfl (frLe_cons rfl (frLe_cons rfl (frLe_cons rfl (frLe_cons rfl frLe_nil))))) stoLe_nil
              · obtain ⟨rfl, hf, hs⟩ := hq
                replace hr := elim_r hr
                refine kblock_ret ?_
                refine kthen_ret ?_
                refine inlK (cs := [.bo false]) (fr'' := [(3, .s v1.2.1), (12, .s v1.1), (13, .s v1.2.1), (24, .bo (decide ((v1.1.length : Int) ≤ 60)))]) (σ'' := []) (.inl rfl) hf hs (.cons (res_tmp rfl) .nil) (.cons rfl (.cons rfl (.cons rfl (.cons rfl .nil)))) rfl stoLe_nil ?_
                cases hr
                exact jump4 _ _ _ rfl (frLe_cons rfl (frLe_cons rfl (frLe_cons rfl (frLe_cons rfl (frLe_cons rfl frLe_nil))))) stoLe_nil
          · rintro _ rfl
            have hr := hy
            clear hx hy
            refine bool_split (decide ((v1.1.length : Int) ≤ 60)) (fun c23 => ?_) (fun c23 => ?_)
            · replace hr := cond_t c23 hr
              refine awpl_op rfl (opTo_q (d := 28) rfl rfl (ev_pick_t rfl c23)) ?_
              refine awpl_op rfl (opTo_q (d := 29) rfl rfl ev_move) ?_
              refine bool_split j7 (fun c24 => ?_) (fun c24 => ?_)
              · replace hr := cond_t c24 hr
                refine awpl_yes (d := 29) rfl rfl rfl c24 (opTo_q (d := 30) rfl rfl ev_move) ?_
                obtain ⟨v25, h26, hr⟩ := bind_some hr
                refine awpl_yes (d := 29) rfl rfl rfl c24 (opTo_call (k := 31) (envelope_Domain_run v1.2.1 v25 h26) rfl rfl) ?_
                refine awpl_op rfl (opTo_q (d := 32) rfl rfl (ev_pick_t rfl c24)) ?_
                refine awpl_op rfl (opTo_q (d := 2) rfl rfl ev_assign) ?_
                refine awpl_op rfl (opTo_q (d := 3) rfl rfl ev_assign) ?_
                refine awpl_op rfl (opTo_q (d := 4) rfl rfl ev_assign) ?_
                refine awpl_nil ?_
                cases hr
                exact joinK_normal _ rfl (frLe_cons rfl (frLe_cons rfl (frLe_cons rfl frLe_nil))) stoLe_nil
              · replace hr := cond_f c24 hr
                refine awpl_no (d := 29) rfl rfl rfl c24 ?_
                refine awpl_no (d := 29) rfl rfl rfl c24 ?_
                refine awpl_op rfl (opTo_q (d := 32) rfl rfl (ev_pick_f rfl c24)) ?_
                refine awpl_op rfl (opTo_q (d := 2) rfl rfl ev_assign) ?_
                refine awpl_op rfl (opTo_q (d := 3) rfl rfl ev_assign) ?_
                refine awpl_op rfl (opTo_q (d := 4) rfl rfl ev_assign) ?_
                refine awpl_nil ?_
                cases hr
                exact joinK_normal _ rfl (frLe_cons rfl (frLe_cons rfl (frLe_cons rfl frLe_nil))) stoLe_nil
            · replace hr := cond_f c23 hr
              refine awpl_op rfl (opTo_q (d := 28) rfl rfl (ev_pick_f rfl c23)) ?_
              refine awpl_op rfl (opTo_q (d := 29) rfl rfl ev_move) ?_
              refine awpl_no (d := 29) rfl rfl rfl rfl ?_
              refine awpl_no (d := 29) rfl rfl rfl rfl ?_
              refine awpl_op rfl (opTo_q (d := 32) rfl rfl (ev_pick_f rfl rfl)) ?_
              refine awpl_op rfl (opTo_q (d := 2) rfl rfl ev_assign) ?_
              refine awpl_op rfl (opTo_q (d := 3) rfl rfl ev_assign) ?_
              refine awpl_op rfl (opTo_q (d := 4) rfl rfl ev_assign) ?_
              refine awpl_nil ?_
              cases hr
              exact joinK_normal _ rfl (frLe_cons rfl (frLe_cons rfl (frLe_cons rfl frLe_nil))) stoLe_nil
        · replace hr := cond_f c6 hr
          refine awpl_no (d := 24) rfl rfl rfl c6 ?_
          refine awpl_no (d := 24) rfl rfl rfl c6 ?_
          refine awpl_no (d := 24) rfl rfl rfl c6 ?_
          refine awpl_op rfl (opTo_q (d := 28) rfl rfl (ev_pick_f rfl c6)) ?_
          refine awpl_op rfl (opTo_q (d := 29) rfl rfl ev_move) ?_
          refine awpl_no (d := 29) rfl rfl rfl rfl ?_
          refine awpl_no (d := 29) rfl rfl rfl rfl ?_
          refine awpl_op rfl (opTo_q (d := 32) rfl rfl (ev_pick_f rfl rfl)) ?_
          refine awpl_op rfl (opTo_q (d := 2) rfl rfl ev_assign) ?_
          refine awpl_op rfl (opTo_q (d := 3) rfl rfl ev_assign) ?_
          refine awpl_op rfl (opTo_q (d := 4) rfl rfl ev_assign) ?_
          refine awpl_nil ?_
          cases hr
          exact joinK_normal _ rfl (frLe_cons rfl (frLe_cons rfl (frLe_cons rfl frLe_nil))) stoLe_nil
      · replace hr := cond_f c5 hr
        refine awpl_no (d := 19) rfl rfl rfl c5 ?_
        refine awpl_no (d := 19) rfl rfl rfl c5 ?_
        refine awpl_no (d := 19) rfl rfl rfl c5 ?_
        refine awpl_op rfl (opTo_q (d := 23) rfl rfl (ev_pick_f rfl c5)) ?_
        refine awpl_op rfl (opTo_q (d := 24) rfl rfl ev_move) ?_
        refine awpl_no (d := 24) rfl rfl rfl rfl ?_
        refine awpl_no (d := 24) rfl rfl rfl rfl ?_
        refine awpl_no (d := 24) rfl rfl rfl rfl ?_
        refine awpl_op rfl (opTo_q (d := 28) rfl rfl (ev_pick_f rfl rfl)) ?_
        refine awpl_op rfl (opTo_q (d := 29) rfl rfl ev_move) ?_
        refine awpl_no (d := 29) rfl rfl rfl rfl ?_
        refine awpl_no (d := 29) rfl rfl rfl rfl ?_
        refine awpl_op rfl (opTo_q (d := 32) rfl rfl (ev_pick_f rfl rfl)) ?_
        refine awpl_op rfl (opTo_q (d := 2) rfl rfl ev_assign) ?_
        refine awpl_op rfl (opTo_q (d := 3) rfl rfl ev_assign) ?_
        refine awpl_op rfl (opTo_q (d := 4) rfl rfl ev_assign) ?_
        refine awpl_nil ?_
        cases hr
        exact joinK_normal _ rfl (frLe_cons rfl (frLe_cons rfl (frLe_cons rfl frLe_nil))) stoLe_nil
    · replace hr := cond_f c4 hr
      refine awpl_no (d := 15) rfl rfl rfl c4 ?_
      refine awpl_no (d := 15) rfl rfl rfl c4 ?_
      refine awpl_op rfl (opTo_q (d := 18) rfl rfl (ev_pick_f rfl c4)) ?_
      refine awpl_op rfl (opTo_q (d := 19) rfl rfl ev_move) ?_
      refine awpl_no (d := 19) rfl rfl rfl rfl ?_
      refine awpl_no (d := 19) rfl rfl rfl rfl ?_
      refine awpl_no (d := 19) rfl rfl rfl rfl ?_
      refine awpl_op rfl (opTo_q (d := 23) rfl rfl (ev_pick_f rfl rfl)) ?_
      refine awpl_op rfl (opTo_q (d := 24) rfl rfl ev_move) ?_
      refine awpl_no (d := 24) rfl rfl rfl rfl ?_
      refine awpl_no (d := 24) rfl rfl rfl rfl ?_
      refine awpl_no (d := 24) rfl rfl rfl rfl ?_
      refine awpl_op rfl (opTo_q (d := 28) rfl rfl (ev_pick_f rfl rfl)) ?_
      refine awpl_op rfl (opTo_q (d := 29) rfl rfl ev_move) ?_
      refine awpl_no (d := 29) rfl rfl rfl rfl ?_
      refine awpl_no (d := 29) rfl rfl rfl rfl ?_
      refine awpl_op rfl (opTo_q (d := 32) rfl rfl (ev_pick_f rfl rfl)) ?_
      refine awpl_op rfl (opTo_q (d := 2) rfl rfl ev_assign) ?_
      refine awpl_op rfl (opTo_q (d := 3) rfl rfl ev_assign) ?_
      refine awpl_op rfl (opTo_q (d := 4) rfl rfl ev_assign) ?_
      refine awpl_nil ?_
      cases hr
      exact joinK_normal _ rfl (frLe_cons rfl (frLe_cons rfl (frLe_cons rfl frLe_nil))) stoLe_nil
  · rintro _ rfl
    have hr := hy
    clear hx hy
    refine awp_ret ?_
    cases hr
    exact kret' rfl (.cons (res_tmp rfl) (.cons (res_tmp rfl) (.cons (res_tmp rfl) .nil))) rfl
end Go.Proofs.Ytlpmbmilnoncdaa

/- A function of the program computes what its Lean function does. Written by program. -/
namespace Go.Proofs.Ytlpmbmilnoncdaa
open Go.RowKit
set_option maxRecDepth 100000
set_option maxHeartbeats 40000000
set_option linter.unusedVariables false
theorem envelope_Address_run (a0 : Str) (r : Bool) (hr : envelope_Address a0 = some r) : Run Try.prog 46 [.s a0] (.bo r) := by
  unfold envelope_Address at hr
  refine run_of_awp (fn := Try.f46) ⟨Try.func46, rfl, by kernel_rfl⟩ rfl (fun _ => rfl) fun g0 hg => ?_
  refine awp_seq ?_
  refine awp_region ?_
  refine awpl_op rfl (opTo_q (d := 2) rfl rfl ev_assign) ?_
  refine awpl_nil ?_
  refine kthen_normal ?_
  refine awp_seq ?_
  refine awp_region ?_
  refine awpl_op rfl (opTo_q (d := 7) rfl rfl ev_move) ?_
  obtain ⟨v1, h2, hr⟩ := bind_some hr
  refine awpl_op rfl (opTo_call (k := 8) (envelope_Split_run a0 v1 h2) rfl rfl) ?_
  refine awpl_op rfl (opTo_q (d := 6) rfl rfl ev_move) ?_
  refine awpl_op rfl (opTo_q (d := 9) rfl rfl (ev_extract rfl rfl)) ?_
  refine awpl_op rfl (opTo_q (d := 10) rfl rfl (ev_extract rfl rfl)) ?_
  refine awpl_op rfl (opTo_q (d := 11) rfl rfl (ev_extract rfl rfl)) ?_
  refine awpl_op rfl (opTo_q (d := 3) rfl rfl ev_assign) ?_
  refine awpl_op rfl (opTo_q (d := 4) rfl rfl ev_assign) ?_
  refine awpl_op rfl (opTo_q (d := 5) rfl rfl ev_assign) ?_
  refine awpl_nil ?_
  refine kthen_normal ?_
  refine awp_seq ?_
  refine awp_region ?_
  refine awpl_op rfl (opTo_q (d := 12) rfl rfl ev_move) ?_
  refine awpl_op rfl (opTo_q (d := 2) rfl rfl ev_assign) ?_
  refine awpl_nil ?_
  refine kthen_normal ?_
  refine awp_ret ?_
  cases hr
  exact kret' rfl (.cons (res_tmp rfl) .nil) rfl
end Go.Proofs.Ytlpmbmilnoncdaa

/- A function of the program computes what its Lean function does. Written by program. -/
namespace Go.Proofs.Ytlpmbmilnoncdaa
open Go.RowKit
set_option maxRecDepth 100000
set_option maxHeartbeats 40000000
set_option linter.unusedVariables false
theorem alias_Validate_run (a0 : List TAlias) (r : TFault) (hr : alias_Validate a0 = some r) : Run Try.prog 31 [.l TAlias.pc a0] (.agg [.i r.Code, .i r.Index]) := by
  unfold alias_Validate at hr
  refine run_of_awp (fn := Try.f31) ⟨Try.func31, rfl, by kernel_rfl⟩ rfl (fun _ => rfl) fun g0 hg => ?_
  refine awp_seq ?_
  refine awp_region ?_
  refine awpl_op rfl (opTo_alloc (k := 2) 2 rfl ty_api_Fault (.inr ⟨rfl, rfl⟩) rfl rfl rfl) ?_
  refine awpl_nil ?_
  refine kthen_normal ?_
  refine awp_seq ?_
  refine awp_seq ?_
  refine awp_region ?_
  refine awpl_op rfl (opTo_q (d := 5) rfl rfl ev_move) ?_
  refine awpl_op rfl (opTo_q (d := 6) rfl rfl (ev_llen (f := TAlias.pc) rfl ty_s_api_Alias.u)) ?_
  refine awpl_op rfl (opTo_q (d := 7) rfl rfl (ev_gtr rfl rfl)) ?_
  refine awpl_nil ?_
  refine kthen_normal ?_
  refine awp_cond rfl (fun c1 => ?_) (fun c1 => ?_)
  · replace hr := cond_t c1 hr
    refine awp_seq ?_
    refine awp_region ?_
    obtain ⟨v2, h3, hr⟩ := bind_some hr
    refine awpl_op rfl (opTo_call (k := 8) (basic_Fault_run 2 ((-1)) v2 h3) rfl rfl) ?_
    refine awpl_op rfl (opTo_store rfl rfl rfl ty_api_Fault rfl rfl) ?_
    refine awpl_nil ?_
    refine kthen_normal ?_
    refine awp_ret ?_
    refine kthen_ret ?_
    cases hr
    exact kret' rfl (.cons (res_cellN rfl rfl ty_api_Fault rfl rfl) .nil) rfl
  · replace hr := cond_f c1 hr
    refine awp_skip ?_
    refine kthen_normal ?_
    refine awp_seq ?_
    refine awp_seq ?_
    refine awp_region ?_
    refine awpl_op rfl (opTo_q (d := 9) rfl rfl ev_move) ?_
    refine awpl_op rfl (opTo_q (d := 10) rfl rfl (ev_llen (f := TAlias.pc) rfl ty_s_api_Alias.u)) ?_
    refine awpl_op rfl (opTo_q (d := 11) rfl rfl ev_move) ?_
    refine awpl_nil ?_
    refine kthen_normal ?_
    refine awp_block ?_
    obtain ⟨o7, hl, hr⟩ := bind_some hr
    refine awp_loop (alias_Validate_l1 a0) (fun s4 => [(0, .l TAlias.pc a0), (2, .ptr 2 0), (9, .l TAlias.pc a0), (10, .i ((a0.length : Int))), (11, .i s4)]) (fun s4 => [(2, .cells [.i 0, .i 0])]) (fun o => match o with | .inl b5 => At (.exit 0) [(2, .ptr 2 0)] [(2, .cells [.i 0, .i 0])] | .inr b6 => At .ret [(2, .ptr 2 0)] [(2, .cells [.i b6.Code, .i b6.Index])]) ?_ 0 hl (frLe_cons rfl (frLe_cons rfl (frLe_cons rfl (frLe_cons rfl (frLe_cons rfl frLe_nil))))) (stoLe_cons rfl stoLe_nil) ?_
    · intro s4 x8 hr
      unfold alias_Validate_l1 at hr
      refine awp_seq ?_
      refine awp_region ?_
      refine awpl_op rfl (opTo_q (d := 12) rfl rfl (ev_lss rfl rfl)) ?_
      refine awpl_nil ?_
      refine kthen_normal ?_
      refine awp_seq ?_
      refine awp_cond rfl (fun c9 => ?_) (fun c9 => ?_)
      · replace hr := cond_t c9 hr
        refine awp_skip ?_
        refine kthen_normal ?_
        refine awp_seq ?_
        refine awp_block ?_
        refine awp_seq ?_
        refine awp_region ?_
        refine awpl_op rfl (opTo_q (d := 13) rfl rfl ev_move) ?_
        obtain ⟨v10, h11, hr⟩ := bind_some hr
        refine awpl_op rfl (opTo_q (d := 14) rfl rfl (ev_idx (f := TAlias.pc) rfl rfl ty_s_api_Alias ty_api_Alias rfl h11)) ?_
        refine awpl_op rfl (opTo_q (d := 15) rfl rfl (ev_load_epN rfl ty_api_Alias rfl rfl)) ?_
        refine awpl_op rfl (opTo_alloc (k := 4) 4 rfl ty_api_Alias (.inr ⟨rfl, rfl⟩) rfl rfl rfl) ?_
        refine awpl_op rfl (opTo_q (d := 3) rfl rfl ev_assign) ?_
        refine awpl_op rfl (opTo_store rfl rfl rfl ty_api_Alias rfl rfl) ?_
        refine awpl_nil ?_
        refine kthen_normal ?_
        refine awp_block ?_
        refine awp_seq ?_
        refine awp_region ?_
        refine awpl_op rfl (opTo_q (d := 17) rfl rfl (ev_fieldAddr rfl ty_api_Alias.u rfl ty_string rfl)) ?_
        refine awpl_op rfl (opTo_q (d := 18) rfl rfl (ev_load rfl rfl ty_string rfl rfl)) ?_
        obtain ⟨v12, h13, hr⟩ := bind_some hr
        refine awpl_op rfl (opTo_call (k := 19) (envelope_Address_run v10.Address v12 h13) rfl rfl) ?_
        refine awpl_op rfl (opTo_q (d := 20) rfl rfl (ev_not rfl)) ?_
        refine awpl_op rfl (opTo_q (d := 16) rfl rfl ev_assign) ?_
        refine awpl_nil ?_
        refine kthen_normal ?_
        refine awp_cond rfl (fun c14 => ?_) (fun c14 => ?_)
        · replace hr := cond_t c14 hr
          refine awp_seq ?_
          refine awp_region ?_
          refine awpl_op rfl (opTo_q (d := 21) rfl rfl ev_move) ?_
          obtain ⟨v15, h16, hr⟩ := bind_some hr
          refine awpl_op rfl (opTo_call (k := 22) (basic_Fault_run 10 s4 v15 h16) rfl rfl) ?_
          refine awpl_op rfl (opTo_store rfl rfl rfl ty_api_Fault rfl rfl) ?_
          refine awpl_nil ?_
          refine kthen_normal ?_
          refine awp_ret ?_
          refine kblock_ret ?_
          refine kblock_ret ?_
          refine kthen_ret ?_
          cases hr
          exact ⟨by simp, rfl, (frLe_cons rfl frLe_nil), (stoLe_cons rfl stoLe_nil)⟩
        · replace hr := cond_f c14 hr
          obtain ⟨j17, hx, hy⟩ := bind_some hr
          refine awp_join (fun j17 => [(0, .l TAlias.pc a0), (2, .ptr 2 0), (3, .i s4), (4, .ptr 4 0), (9, .l TAlias.pc a0), (10, .i ((a0.length : Int))), (11, .i s4), (23, .bo j17)]) (fun j17 => [(4, .cells [.s v10.Address, .l cS v10.To]), (2, .cells [.i 0, .i 0])]) (fun z => j17 = z) ?_ ?_
          · have hr := hx
            clear hx hy
            refine awp_region ?_
            refine awpl_op rfl (opTo_q (d := 24) rfl rfl (ev_fieldAddr rfl ty_api_Alias.u rfl ty_s_string rfl)) ?_
            refine awpl_op rfl (opTo_q (d := 25) rfl rfl (ev_load rfl rfl ty_s_string rfl rfl)) ?_
            refine awpl_op rfl (opTo_q (d := 26) rfl rfl (ev_llen (f := cS) rfl ty_s_string.u)) ?_
            refine awpl_op rfl (opTo_q (d := 27) rfl rfl (ev_lss rfl rfl)) ?_
            refine awpl_op rfl (opTo_q (d := 28) rfl rfl ev_move) ?_
            refine bool_split (decide ((v10.To.length : Int) < 1)) (fun c18 => ?_) (fun c18 => ?_)
            · replace hr := cond_t c18 hr
              refine awpl_no (d := 28) rfl rfl rfl c18 ?_
              refine awpl_no (d := 28) rfl rfl rfl c18 ?_
              refine awpl_no (d := 28) rfl rfl rfl c18 ?_
              refine awpl_no (d := 28) rfl rfl rfl c18 ?_
              refine awpl_op rfl (opTo_q (d := 33) rfl rfl (ev_pick_t rfl c18)) ?_
              refine awpl_op rfl (opTo_q (d := 23) rfl rfl ev_assign) ?_
              refine awpl_nil ?_
              cases hr
              exact joinK_normal _ rfl (frLe_cons rfl (frLe_cons rfl (frLe_cons rfl (frLe_cons rfl (frLe_cons rfl (frLe_cons rfl (frLe_cons rfl (frLe_cons rfl frLe_nil)))))))) (stoLe_cons rfl (stoLe_cons rfl stoLe_nil))
            · replace hr := cond_f c18 hr
              refine awpl_yes (d := 28) rfl rfl rfl c18 (opTo_q (d := 29) rfl rfl (ev_fieldAddr rfl ty_api_Alias.u rfl ty_s_string rfl)) ?_
              refine awpl_yes (d := 28) rfl rfl rfl c18 (opTo_q (d := 30) rfl rfl (ev_load rfl rfl ty_s_string rfl rfl)) ?_
              refine awpl_yes (d := 28) rfl rfl rfl c18 (opTo_q (d := 31) rfl rfl (ev_llen (f := cS) rfl ty_s_string.u)) ?_
              refine awpl_yes (d := 28) rfl rfl rfl c18 (opTo_q (d := 32) rfl rfl (ev_gtr rfl rfl)) ?_
              refine awpl_op rfl (opTo_q (d := 33) rfl rfl (ev_pick_f rfl c18)) ?_
              refine awpl_op rfl (opTo_q (d := 23) rfl rfl ev_assign) ?_
              refine awpl_nil ?_
              cases hr
              exact joinK_normal _ rfl (frLe_cons rfl (frLe_cons rfl (frLe_cons rfl (frLe_cons rfl (frLe_cons rfl (frLe_cons rfl (frLe_cons rfl (frLe_cons rfl frLe_nil)))))))) (stoLe_cons rfl (stoLe_cons rfl stoLe_nil))
          · rintro _ rfl
            have hr := hy
            clear hx hy
            refine awp_cond rfl (fun c19 => ?_) (fun c19 => ?_)
            · replace hr := cond_t c19 hr
              refine awp_seq ?_
              refine awp_region ?_
              refine awpl_op rfl (opTo_q (d := 34) rfl rfl ev_move) ?_
              obtain ⟨v20, h21, hr⟩ := bind_some hr
              refine awpl_op rfl (opTo_call (k := 35) (basic_Fault_run 2 s4 v20 h21) rfl rfl) ?_
              refine awpl_op rfl (opTo_store rfl rfl rfl ty_api_Fault rfl rfl) ?_
              refine awpl_nil ?_
              refine kthen_normal ?_
              refine awp_ret ?_
              refine kblock_ret ?_
              refine kblock_ret ?_
              refine kthen_ret ?_
              cases hr
              exact ⟨by simp, rfl, (frLe_cons rfl frLe_nil), (stoLe_cons rfl stoLe_nil)⟩
            · replace hr := cond_f c19 hr
              refine awp_seq ?_
              refine awp_region ?_
              refine awpl_op rfl (opTo_q (d := 37) rfl rfl (ev_fieldAddr rfl ty_api_Alias.u rfl ty_s_string rfl)) ?_
              refine awpl_op rfl (opTo_q (d := 38) rfl rfl (ev_load rfl rfl ty_s_string rfl rfl)) ?_
              refine awpl_inl (fn := Try.f51) (args := [.l cS v10.To, .fn (.func 52) [] []]) 900000 999999 [(0, .l TAlias.pc a0), (2, .ptr 2 0), (3, .i s4), (4, .ptr 4 0), (9, .l TAlias.pc a0), (10, .i ((a0.length : Int))), (11, .i s4)] (wanted_plain rfl) rfl ⟨Try.func51, rfl, by kernel_rfl⟩ rfl rfl (.cons rfl (.cons rfl (.cons rfl (.cons rfl (.cons rfl (.cons rfl (.cons rfl .nil))))))) fun T9 ds9 hT9 => ?_
              refine awp_seq ?_
              refine awp_region ?_
              refine awpl_op rfl (opTo_q (d := 4) rfl rfl ev_assign) ?_
              refine awpl_nil ?_
              refine kthen_normal ?_
              refine awp_seq ?_
              refine awp_region ?_
              refine awpl_op rfl (opTo_q (d := 5) rfl rfl ev_move) ?_
              refine awpl_op rfl (opTo_q (d := 6) rfl rfl ev_move) ?_
              obtain ⟨j22, hx, hy⟩ := bind_some hr
              refine awpl_cut (fun j22 => [(7, .i j22)]) (fun j22 => [(999999, .sus g0.w.heap.size ds9), (900000, .hold (.l TAlias.pc a0) (T9.getD 0 undef)), (900002, .hold (.ptr 2 0) (T9.getD 2 undef)), (900003, .hold (.i s4) (T9.getD 3 undef)), (900004, .hold (.ptr 4 0) (T9.getD 4 undef)), (900009, .hold (.l TAlias.pc a0) (T9.getD 9 undef)), (900010, .hold (.i ((a0.length : Int))) (T9.getD 10 undef)), (900011, .hold (.i s4) (T9.getD 11 undef)), (4, .cells [.s v10.Address, .l cS v10.To]), (2, .cells [.i 0, .i 0])]) (fun z => j22 = z) (fun jump10 => ?_) ?_
              · have hr := hx
                clear hx hy
                refine awpl_inl (fn := Try.f66) (args := [.l cS v10.To, .fn (.func 52) [] []]) 1000000 1099999 [] (wanted_plain rfl) rfl ⟨Try.func66, rfl, by kernel_rfl⟩ rfl rfl .nil fun T10 ds10 hT10 => ?_
                refine awp_seq ?_
                refine awp_region ?_
                refine awpl_op rfl (opTo_q (d := 4) rfl rfl ev_assign) ?_
                refine awpl_nil ?_
                refine kthen_normal ?_
                refine awp_seq ?_
                refine awp_seq ?_
                refine awp_region ?_
                refine awpl_op rfl (opTo_q (d := 6) rfl rfl ev_move) ?_
                refine awpl_op rfl (opTo_q (d := 7) rfl rfl (ev_llen (f := cS) rfl ty_s_string.u)) ?_
                refine awpl_op rfl (opTo_q (d := 8) rfl rfl ev_move) ?_
                refine awpl_nil ?_
                refine kthen_normal ?_
                refine awp_block ?_
                obtain ⟨o26, hl, hr⟩ := bind_some hr
                refine awp_loop (alias_Validate_l2 v10) (fun s23 => [(0, .l cS v10.To), (1, .fn (.func 52) [] []), (7, .i ((v10.To.length : Int))), (8, .i s23)]) (fun s23 => [(1099999, .sus g0.w.heap.size ds10), (999999, .sus g0.w.heap.size ds9), (900000, .hold (.l TAlias.pc a0) (T9.getD 0 undef)), (900002, .hold (.ptr 2 0) (T9.getD 2 undef)), (900003, .hold (.i s4) (T9.getD 3 undef)), (900004, .hold (.ptr 4 0) (T9.getD 4 undef)), (900009, .hold (.l TAlias.pc a0) (T9.getD 9 undef)), (900010, .hold (.i ((a0.length : Int))) (T9.getD 10 undef)), (900011, .hold (.i s4) (T9.getD 11 undef)), (4, .cells [.s v10.Address, .l cS v10.To]), (2, .cells [.i 0, .i 0])]) (fun o => match o with | .inl b24 => At (.exit 0) [] [(1099999, .sus g0.w.heap.size ds10), (999999, .sus g0.w.heap.size ds9), (900000, .hold (.l TAlias.pc a0) (T9.getD 0 undef)), (900002, .hold (.ptr 2 0) (T9.getD 2 undef)), (900003, .hold (.i s4) (T9.getD 3 undef)), (900004, .hold (.ptr 4 0) (T9.getD 4 undef)), (900009, .hold (.l TAlias.pc a0) (T9.getD 9 undef)), (900010, .hold (.i ((a0.length : Int))) (T9.getD 10 undef)), (900011, .hold (.i s4) (T9.getD 11 undef)), (4, .cells [.s v10.Address, .l cS v10.To]), (2, .cells [.i 0, .i 0])] | .inr b25 => At .ret [(4, .i b25)] [(1099999, .sus g0.w.heap.size ds10), (999999, .sus g0.w.heap.size ds9), (900000, .hold (.l TAlias.pc a0) (T9.getD 0 undef)), (900002, .hold (.ptr 2 0) (T9.getD 2 undef)), (900003, .hold (.i s4) (T9.getD 3 undef)), (900004, .hold (.ptr 4 0) (T9.getD 4 undef)), (900009, .hold (.l TAlias.pc a0) (T9.getD 9 undef)), (900010, .hold (.i ((a0.length : Int))) (T9.getD 10 undef)), (900011, .hold (.i s4) (T9.getD 11 undef)), (4, .cells [.s v10.Address, .l cS v10.To]), (2, .cells [.i 0, .i 0])]) ?_ 0 hl (frLe_cons rfl (frLe_cons rfl (frLe_cons rfl (frLe_cons rfl frLe_nil)))) (stoLe_cons rfl (stoLe_cons rfl (stoLe_cons rfl (stoLe_cons rfl (stoLe_cons rfl (stoLe_cons rfl (stoLe_cons rfl (stoLe_cons rfl (stoLe_cons rfl (stoLe_cons rfl (stoLe_cons rfl stoLe_nil))))))))))) ?_
                · intro s23 x27 hr
                  unfold alias_Validate_l2 at hr
                  refine awp_seq ?_
                  refine awp_region ?_
                  refine awpl_op rfl (opTo_q (d := 9) rfl rfl (ev_lss rfl rfl)) ?_
                  refine awpl_nil ?_
                  refine kthen_normal ?_
                  refine awp_seq ?_
                  refine awp_cond rfl (fun c28 => ?_) (fun c28 => ?_)
                  · replace hr := cond_t c28 hr
                    refine awp_skip ?_
                    refine kthen_normal ?_
                    refine awp_seq ?_
                    refine awp_block ?_
                    refine awp_seq ?_
                    refine awp_region ?_
                    refine awpl_op rfl (opTo_q (d := 10) rfl rfl ev_move) ?_
                    refine awpl_op rfl (opTo_q (d := 5) rfl rfl ev_assign) ?_
                    refine awpl_nil ?_
                    refine kthen_normal ?_
                    refine awp_seq ?_
                    refine awp_region ?_
                    refine awpl_op rfl (opTo_q (d := 11) rfl rfl ev_move) ?_
                    refine awpl_op rfl (opTo_q (d := 12) rfl rfl ev_move) ?_
                    refine awpl_op rfl (opTo_q (d := 13) rfl rfl ev_move) ?_
                    obtain ⟨v29, h30, hr⟩ := bind_some hr
                    refine awpl_op rfl (opTo_q (d := 14) rfl rfl (ev_idx (f := cS) rfl rfl ty_s_string ty_string rfl h30)) ?_
                    refine awpl_op rfl (opTo_q (d := 15) rfl rfl (ev_load_ep rfl ty_string rfl rfl)) ?_
                    refine awpl_inl (fn := Try.f52) (args := [.s v29]) 1200000 1299999 [(0, .l cS v10.To), (1, .fn (.func 52) [] []), (5, .i s23), (7, .i ((v10.To.length : Int))), (8, .i s23)] (wanted_plain rfl) rfl ⟨Try.func52, rfl, by kernel_rfl⟩ rfl rfl (.cons rfl (.cons rfl (.cons rfl (.cons rfl (.cons rfl .nil))))) fun T12 ds12 hT12 => ?_
                    refine awp_seq ?_
                    refine awp_region ?_
                    refine awpl_op rfl (opTo_q (d := 2) rfl rfl ev_assign) ?_
                    refine awpl_nil ?_
                    refine kthen_normal ?_
                    refine awp_seq ?_
                    refine awp_region ?_
                    refine awpl_op rfl (opTo_q (d := 3) rfl rfl ev_move) ?_
                    obtain ⟨v31, h32, hr⟩ := bind_some hr
                    refine awpl_op rfl (opTo_call (k := 4) (envelope_Address_run v29 v31 h32) rfl rfl) ?_
                    refine awpl_op rfl (opTo_q (d := 5) rfl rfl (ev_not rfl)) ?_
                    refine awpl_op rfl (opTo_q (d := 2) rfl rfl ev_assign) ?_
                    refine awpl_nil ?_
                    refine kthen_normal ?_
                    refine awp_ret ?_
                    refine inlK (cs := [.bo ((!v31))]) (fr'' := [(0, .l cS v10.To), (1, .fn (.func 52) [] []), (5, .i s23), (7, .i ((v10.To.length : Int))), (8, .i s23)]) (σ'' := [(1099999, .sus g0.w.heap.size ds10), (999999, .sus g0.w.heap.size ds9), (900000, .hold (.l TAlias.pc a0) (T9.getD 0 undef)), (900002, .hold (.ptr 2 0) (T9.getD 2 undef)), (900003, .hold (.i s4) (T9.getD 3 undef)), (900004, .hold (.ptr 4 0) (T9.getD 4 undef)), (900009, .hold (.l TAlias.pc a0) (T9.getD 9 undef)), (900010, .hold (.i ((a0.length : Int))) (T9.getD 10 undef)), (900011, .hold (.i s4) (T9.getD 11 undef)), (4, .cells [.s v10.Address, .l cS v10.To]), (2, .cells [.i 0, .i 0])]) (.inl rfl) frLe_refl stoLe_refl (.cons (res_tmp rfl) .nil) (.cons rfl (.cons rfl (.cons rfl (.cons rfl (.cons rfl .nil))))) rfl (stoLe_cons rfl (stoLe_cons rfl (stoLe_cons rfl (stoLe_cons rfl (stoLe_cons rfl (stoLe_cons rfl (stoLe_cons rfl (stoLe_cons rfl (stoLe_cons rfl (stoLe_cons rfl (stoLe_cons rfl stoLe_nil))))))))))) ?_
                    refine awpl_nil ?_
                    refine kthen_normal ?_
                    refine awp_cond rfl (fun c33 => ?_) (fun c33 => ?_)
                    · replace hr := cond_t c33 hr
                      refine awp_seq ?_
                      refine awp_region ?_
                      refine awpl_op rfl (opTo_q (d := 17) rfl rfl ev_move) ?_
                      refine awpl_op rfl (opTo_q (d := 4) rfl rfl ev_assign) ?_
                      refine awpl_nil ?_
                      refine kthen_normal ?_
                      refine awp_ret ?_
                      refine kblock_ret ?_
                      refine kthen_ret ?_
                      cases hr
                      exact ⟨by simp, rfl, (frLe_cons rfl frLe_nil), (stoLe_cons rfl (stoLe_cons rfl (stoLe_cons rfl (stoLe_cons rfl (stoLe_cons rfl (stoLe_cons rfl (stoLe_cons rfl (stoLe_cons rfl (stoLe_cons rfl (stoLe_cons rfl (stoLe_cons rfl stoLe_nil)))))))))))⟩
                    · replace hr := cond_f c33 hr
                      refine awp_skip ?_
                      refine kblock_normal ?_
                      refine kthen_normal ?_
                      refine awp_region ?_
                      refine awpl_op rfl (opTo_q (d := 18) rfl rfl (ev_add rfl rfl)) ?_
                      refine awpl_op rfl (opTo_q (d := 8) rfl rfl ev_move) ?_
                      refine awpl_nil ?_
                      cases hr
                      exact ⟨rfl, (frLe_cons rfl (frLe_cons rfl (frLe_cons rfl (frLe_cons rfl frLe_nil)))), (stoLe_cons rfl (stoLe_cons rfl (stoLe_cons rfl (stoLe_cons rfl (stoLe_cons rfl (stoLe_cons rfl (stoLe_cons rfl (stoLe_cons rfl (stoLe_cons rfl (stoLe_cons rfl (stoLe_cons rfl stoLe_nil)))))))))))⟩
                  · replace hr := cond_f c28 hr
                    refine awp_exit ?_
                    refine kthen_exit ?_
                    cases hr
                    exact ⟨by simp, rfl, frLe_nil, (stoLe_cons rfl (stoLe_cons rfl (stoLe_cons rfl (stoLe_cons rfl (stoLe_cons rfl (stoLe_cons rfl (stoLe_cons rfl (stoLe_cons rfl (stoLe_cons rfl (stoLe_cons rfl (stoLe_cons rfl stoLe_nil)))))))))))⟩
                · intro e fr2 st2 hq
                  rcases o26 with b24 | b25
                  · obtain ⟨rfl, hf, hs⟩ := hq
                    replace hr := elim_l hr
                    refine kblock_exit ?_
                    refine kthen_normal ?_
                    refine awp_le hf hs ?_
                    refine awp_seq ?_
                    refine awp_region ?_
                    refine awpl_op rfl (opTo_q (d := 4) rfl rfl ev_assign) ?_
                    refine awpl_nil ?_
                    refine kthen_normal ?_
                    refine awp_ret ?_
                    refine inlK (cs := [.i ((-1))]) (fr'' := []) (σ'' := [(999999, .sus g0.w.heap.size ds9), (900000, .hold (.l TAlias.pc a0) (T9.getD 0 undef)), (900002, .hold (.ptr 2 0) (T9.getD 2 undef)), (900003, .hold (.i s4) (T9.getD 3 undef)), (900004, .hold (.ptr 4 0) (T9.getD 4 undef)), (900009, .hold (.l TAlias.pc a0) (T9.getD 9 undef)), (900010, .hold (.i ((a0.length : Int))) (T9.getD 10 undef)), (900011, .hold (.i s4) (T9.getD 11 undef)), (4, .cells [.s v10.Address, .l cS v10.To]), (2, .cells [.i 0, .i 0])]) (.inl rfl) frLe_refl stoLe_refl (.cons (res_tmp rfl) .nil) .nil rfl (stoLe_cons rfl (stoLe_cons rfl (stoLe_cons rfl (stoLe_cons rfl (stoLe_cons rfl (stoLe_cons rfl (stoLe_cons rfl (stoLe_cons rfl (stoLe_cons rfl (stoLe_cons rfl stoLe_nil)))))))))) ?_
                    cases hr
                    exact jump10 _ _ _ rfl (frLe_cons rfl frLe_nil) (stoLe_cons rfl (stoLe_cons rfl (stoLe_cons rfl (stoLe_cons rfl (stoLe_cons rfl (stoLe_cons rfl (stoLe_cons rfl (stoLe_cons rfl (stoLe_cons rfl (stoLe_cons rfl stoLe_nil))))))))))
                  · obtain ⟨rfl, hf, hs⟩ := hq
                    replace hr := elim_r hr
                    refine kblock_ret ?_
                    refine kthen_ret ?_
                    refine inlK (cs := [.i b25]) (fr'' := []) (σ'' := [(999999, .sus g0.w.heap.size ds9), (900000, .hold (.l TAlias.pc a0) (T9.getD 0 undef)), (900002, .hold (.ptr 2 0) (T9.getD 2 undef)), (900003, .hold (.i s4) (T9.getD 3 undef)), (900004, .hold (.ptr 4 0) (T9.getD 4 undef)), (900009, .hold (.l TAlias.pc a0) (T9.getD 9 undef)), (900010, .hold (.i ((a0.length : Int))) (T9.getD 10 undef)), (900011, .hold (.i s4) (T9.getD 11 undef)), (4, .cells [.s v10.Address, .l cS v10.To]), (2, .cells [.i 0, .i 0])]) (.inl rfl) hf hs (.cons (res_tmp rfl) .nil) .nil rfl (stoLe_cons rfl (stoLe_cons rfl (stoLe_cons rfl (stoLe_cons rfl (stoLe_cons rfl (stoLe_cons rfl (stoLe_cons rfl (stoLe_cons rfl (stoLe_cons rfl (stoLe_cons rfl stoLe_nil)))))))))) ?_
                    cases hr
                    exact jump10 _ _ _ rfl (frLe_cons rfl frLe_nil) (stoLe_cons rfl (stoLe_cons rfl (stoLe_cons rfl (stoLe_cons rfl (stoLe_cons rfl (stoLe_cons rfl (stoLe_cons rfl (stoLe_cons rfl (stoLe_cons rfl (stoLe_cons rfl stoLe_nil))))))))))
              · rintro _ rfl
                have hr := hy
                clear hx hy
                refine awpl_op rfl (opTo_q (d := 8) rfl rfl (ev_geq rfl rfl)) ?_
                refine awpl_op rfl (opTo_q (d := 4) rfl rfl ev_assign) ?_
                refine awpl_nil ?_
                refine kthen_normal ?_
                refine awp_ret ?_
                refine inlK (cs := [.bo (decide (0 ≤ j22))]) (fr'' := [(0, .l TAlias.pc a0), (2, .ptr 2 0), (3, .i s4), (4, .ptr 4 0), (9, .l TAlias.pc a0), (10, .i ((a0.length : Int))), (11, .i s4)]) (σ'' := [(4, .cells [.s v10.Address, .l cS v10.To]), (2, .cells [.i 0, .i 0])]) (.inl rfl) frLe_refl stoLe_refl (.cons (res_tmp rfl) .nil) (.cons rfl (.cons rfl (.cons rfl (.cons rfl (.cons rfl (.cons rfl (.cons rfl .nil))))))) rfl (stoLe_cons rfl (stoLe_cons rfl stoLe_nil)) ?_
                refine awpl_op rfl (opTo_q (d := 36) rfl rfl ev_assign) ?_
                refine awpl_nil ?_
                refine kthen_normal ?_
                refine awp_cond rfl (fun c34 => ?_) (fun c34 => ?_)
                · replace hr := cond_t c34 hr
                  refine awp_seq ?_
                  refine awp_region ?_
                  refine awpl_op rfl (opTo_q (d := 40) rfl rfl ev_move) ?_
                  obtain ⟨v35, h36, hr⟩ := bind_some hr
                  refine awpl_op rfl (opTo_call (k := 41) (basic_Fault_run 10 s4 v35 h36) rfl rfl) ?_
                  refine awpl_op rfl (opTo_store rfl rfl rfl ty_api_Fault rfl rfl) ?_
                  refine awpl_nil ?_
                  refine kthen_normal ?_
                  refine awp_ret ?_
                  refine kblock_ret ?_
                  refine kblock_ret ?_
                  refine kthen_ret ?_
                  cases hr
                  exact ⟨by simp, rfl, (frLe_cons rfl frLe_nil), (stoLe_cons rfl stoLe_nil)⟩
                · replace hr := cond_f c34 hr
                  refine awp_seq ?_
                  refine awp_region ?_
                  refine awpl_op rfl (opTo_q (d := 43) rfl rfl ev_move) ?_
                  refine awpl_op rfl (opTo_q (d := 44) rfl rfl ev_move) ?_
                  obtain ⟨v37, h38, hr⟩ := bind_some hr
                  refine awpl_op rfl (opTo_q (d := 45) rfl rfl (ev_cutH (F := TAlias.pc) rfl rfl ty_s_api_Alias ty_api_Alias (fun _ => rfl) h38)) ?_
                  refine awpl_op rfl (opTo_q (d := 46) rfl rfl (ev_makeFunc rfl rfl)) ?_
                  refine awpl_inl (fn := Try.f53) (args := [.l TAlias.pc v37, .fn (.func 54) [] [.ptr 4 0]]) 1300000 1399999 [(0, .l TAlias.pc a0), (2, .ptr 2 0), (3, .i s4), (9, .l TAlias.pc a0), (10, .i ((a0.length : Int))), (11, .i s4)] (wanted_plain rfl) rfl ⟨Try.func53, rfl, by kernel_rfl⟩ rfl rfl (.cons rfl (.cons rfl (.cons rfl (.cons rfl (.cons rfl (.cons rfl .nil)))))) fun T13 ds13 hT13 => ?_
                  refine awp_seq ?_
                  refine awp_region ?_
                  refine awpl_op rfl (opTo_q (d := 4) rfl rfl ev_assign) ?_
                  refine awpl_nil ?_
                  refine kthen_normal ?_
                  refine awp_seq ?_
                  refine awp_region ?_
                  refine awpl_op rfl (opTo_q (d := 5) rfl rfl ev_move) ?_
                  refine awpl_op rfl (opTo_q (d := 6) rfl rfl ev_move) ?_
                  obtain ⟨j39, hx, hy⟩ := bind_some hr
                  refine awpl_cut (fun j39 => [(7, .i j39)]) (fun j39 => [(1399999, .sus g0.w.heap.size ds13), (1300000, .hold (.l TAlias.pc a0) (T13.getD 0 undef)), (1300002, .hold (.ptr 2 0) (T13.getD 2 undef)), (1300003, .hold (.i s4) (T13.getD 3 undef)), (1300009, .hold (.l TAlias.pc a0) (T13.getD 9 undef)), (1300010, .hold (.i ((a0.length : Int))) (T13.getD 10 undef)), (1300011, .hold (.i s4) (T13.getD 11 undef)), (2, .cells [.i 0, .i 0])]) (fun z => j39 = z) (fun jump14 => ?_) ?_
                  · have hr := hx
                    clear hx hy
                    refine awpl_inl (fn := Try.f67) (args := [.l TAlias.pc v37, .fn (.func 54) [] [.ptr 4 0]]) 1400000 1499999 [] (wanted_plain rfl) rfl ⟨Try.func67, rfl, by kernel_rfl⟩ rfl rfl .nil fun T14 ds14 hT14 => ?_
                    refine awp_seq ?_
                    refine awp_region ?_
                    refine awpl_op rfl (opTo_q (d := 4) rfl rfl ev_assign) ?_
                    refine awpl_nil ?_
                    refine kthen_normal ?_
                    refine awp_seq ?_
                    refine awp_seq ?_
                    refine awp_region ?_
                    refine awpl_op rfl (opTo_q (d := 6) rfl rfl ev_move) ?_
                    refine awpl_op rfl (opTo_q (d := 7) rfl rfl (ev_llen (f := TAlias.pc) rfl ty_s_api_Alias.u)) ?_
                    refine awpl_op rfl (opTo_q (d := 8) rfl rfl ev_move) ?_
                    refine awpl_nil ?_
                    refine kthen_normal ?_
                    refine awp_block ?_
                    obtain ⟨o43, hl, hr⟩ := bind_some hr
                    refine awp_loop (alias_Validate_l3 v10 v37) (fun s40 => [(0, .l TAlias.pc v37), (1, .fn (.func 54) [] [.ptr 4 0]), (7, .i ((v37.length : Int))), (8, .i s40)]) (fun s40 => [(1499999, .sus g0.w.heap.size ds14), (1399999, .sus g0.w.heap.size ds13), (1300000, .hold (.l TAlias.pc a0) (T13.getD 0 undef)), (1300002, .hold (.ptr 2 0) (T13.getD 2 undef)), (1300003, .hold (.i s4) (T13.getD 3 undef)), (1300009, .hold (.l TAlias.pc a0) (T13.getD 9 undef)), (1300010, .hold (.i ((a0.length : Int))) (T13.getD 10 undef)), (1300011, .hold (.i s4) (T13.getD 11 undef)), (4, .cells [.s v10.Address, .l cS v10.To]), (2, .cells [.i 0, .i 0])]) (fun o => match o with | .inl b41 => At (.exit 0) [] [(1499999, .sus g0.w.heap.size ds14), (1399999, .sus g0.w.heap.size ds13), (1300000, .hold (.l TAlias.pc a0) (T13.getD 0 undef)), (1300002, .hold (.ptr 2 0) (T13.getD 2 undef)), (1300003, .hold (.i s4) (T13.getD 3 undef)), (1300009, .hold (.l TAlias.pc a0) (T13.getD 9 undef)), (1300010, .hold (.i ((a0.length : Int))) (T13.getD 10 undef)), (1300011, .hold (.i s4) (T13.getD 11 undef)), (2, .cells [.i 0, .i 0])] | .inr b42 => At .ret [(4, .i b42)] [(1499999, .sus g0.w.heap.size ds14), (1399999, .sus g0.w.heap.size ds13), (1300000, .hold (.l TAlias.pc a0) (T13.getD 0 undef)), (1300002, .hold (.ptr 2 0) (T13.getD 2 undef)), (1300003, .hold (.i s4) (T13.getD 3 undef)), (1300009, .hold (.l TAlias.pc a0) (T13.getD 9 undef)), (1300010, .hold (.i ((a0.length : Int))) (T13.getD 10 undef)), (1300011, .hold (.i s4) (T13.getD 11 undef)), (2, .cells [.i 0, .i 0])]) ?_ 0 hl (frLe_cons rfl (frLe_cons rfl (frLe_cons rfl (frLe_cons rfl frLe_nil)))) (stoLe_cons rfl (stoLe_cons rfl (stoLe_cons rfl (stoLe_cons rfl (stoLe_cons rfl (stoLe_cons rfl (stoLe_cons rfl (stoLe_cons rfl (stoLe_cons rfl (stoLe_cons rfl stoLe_nil)))))))))) ?_
                    · intro s40 x44 hr
                      unfold alias_Validate_l3 at hr
                      refine awp_seq ?_
                      refine awp_region ?_
                      refine awpl_op rfl (opTo_q (d := 9) rfl rfl (ev_lss rfl rfl)) ?_
                      refine awpl_nil ?_
                      refine kthen_normal ?_
                      refine awp_seq ?_
                      refine awp_cond rfl (fun c45 => ?_) (fun c45 => ?_)
                      · replace hr := cond_t c45 hr
                        refine awp_skip ?_
                        refine kthen_normal ?_
                        refine awp_seq ?_
                        refine awp_block ?_
                        refine awp_seq ?_
                        refine awp_region ?_
                        refine awpl_op rfl (opTo_q (d := 10) rfl rfl ev_move) ?_
                        refine awpl_op rfl (opTo_q (d := 5) rfl rfl ev_assign) ?_
                        refine awpl_nil ?_
                        refine kthen_normal ?_
                        refine awp_seq ?_
                        refine awp_region ?_
                        refine awpl_op rfl (opTo_q (d := 11) rfl rfl ev_move) ?_
                        refine awpl_op rfl (opTo_q (d := 12) rfl rfl ev_move) ?_
                        refine awpl_op rfl (opTo_q (d := 13) rfl rfl ev_move) ?_
                        obtain ⟨v46, h47, hr⟩ := bind_some hr
                        refine awpl_op rfl (opTo_q (d := 14) rfl rfl (ev_idx (f := TAlias.pc) rfl rfl ty_s_api_Alias ty_api_Alias rfl h47)) ?_
                        refine awpl_op rfl (opTo_q (d := 15) rfl rfl (ev_load_epN rfl ty_api_Alias rfl rfl)) ?_
                        refine awpl_inl (fn := Try.f54) (args := [.agg [.s v46.Address, .l cS v46.To], .ptr 4 0]) 1600000 1699999 [(0, .l TAlias.pc v37), (1, .fn (.func 54) [] [.ptr 4 0]), (5, .i s40), (7, .i ((v37.length : Int))), (8, .i s40)] (wanted_plain rfl) rfl ⟨Try.func54, rfl, by kernel_rfl⟩ rfl rfl (.cons rfl (.cons rfl (.cons rfl (.cons rfl (.cons rfl .nil))))) fun T16 ds16 hT16 => ?_
                        refine awp_seq ?_
                        refine awp_region ?_
                        refine awpl_op rfl (opTo_box (k := 2) 1002 rfl rfl rfl rfl rfl) ?_
                        refine awpl_op rfl (opTo_q (d := 3) rfl rfl ev_assign) ?_
                        refine awpl_nil ?_
                        refine kthen_normal ?_
                        refine awp_seq ?_
                        refine awp_region ?_
                        refine awpl_op rfl (opTo_q (d := 4) rfl rfl (ev_fieldAddr rfl ty_api_Alias.u rfl ty_string rfl)) ?_
                        refine awpl_op rfl (opTo_q (d := 5) rfl rfl (ev_load rfl rfl ty_string rfl rfl)) ?_
                        refine awpl_op rfl (opTo_q (d := 6) rfl rfl (ev_fieldAddr rfl ty_api_Alias.u rfl ty_string rfl)) ?_
                        refine awpl_op rfl (opTo_q (d := 7) rfl rfl (ev_load rfl rfl ty_string rfl rfl)) ?_
                        refine awpl_op rfl (opTo_q (d := 8) rfl rfl (ev_seql (a := v46.Address) (b := v10.Address) rfl rfl)) ?_
                        refine awpl_op rfl (opTo_q (d := 3) rfl rfl ev_assign) ?_
                        refine awpl_nil ?_
                        refine kthen_normal ?_
                        refine awp_ret ?_
                        refine inlK (cs := [.bo ((v46.Address == v10.Address))]) (fr'' := [(0, .l TAlias.pc v37), (1, .fn (.func 54) [] [.ptr 4 0]), (5, .i s40), (7, .i ((v37.length : Int))), (8, .i s40)]) (σ'' := [(1002, .cells [.s v46.Address, .l cS v46.To]), (1499999, .sus g0.w.heap.size ds14), (1399999, .sus g0.w.heap.size ds13), (1300000, .hold (.l TAlias.pc a0) (T13.getD 0 undef)), (1300002, .hold (.ptr 2 0) (T13.getD 2 undef)), (1300003, .hold (.i s4) (T13.getD 3 undef)), (1300009, .hold (.l TAlias.pc a0) (T13.getD 9 undef)), (1300010, .hold (.i ((a0.length : Int))) (T13.getD 10 undef)), (1300011, .hold (.i s4) (T13.getD 11 undef)), (4, .cells [.s v10.Address, .l cS v10.To]), (2, .cells [.i 0, .i 0])]) (.inl rfl) frLe_refl stoLe_refl (.cons (res_tmp rfl) .nil) (.cons rfl (.cons rfl (.cons rfl (.cons rfl (.cons rfl .nil))))) rfl (stoLe_cons rfl (stoLe_cons rfl (stoLe_cons rfl (stoLe_cons rfl (stoLe_cons rfl (stoLe_cons rfl (stoLe_cons rfl (stoLe_cons rfl (stoLe_cons rfl (stoLe_cons rfl (stoLe_cons rfl stoLe_nil))))))))))) ?_
                        refine awpl_nil ?_
                        refine kthen_normal ?_
                        refine awp_cond rfl (fun c48 => ?_) (fun c48 => ?_)
                        · replace hr := cond_t c48 hr
                          refine awp_seq ?_
                          refine awp_region ?_
                          refine awpl_op rfl (opTo_q (d := 17) rfl rfl ev_move) ?_
                          refine awpl_op rfl (opTo_q (d := 4) rfl rfl ev_assign) ?_
                          refine awpl_nil ?_
                          refine kthen_normal ?_
                          refine awp_ret ?_
                          refine kblock_ret ?_
                          refine kthen_ret ?_
                          cases hr
                          exact ⟨by simp, rfl, (frLe_cons rfl frLe_nil), (stoLe_cons rfl (stoLe_cons rfl (stoLe_cons rfl (stoLe_cons rfl (stoLe_cons rfl (stoLe_cons rfl (stoLe_cons rfl (stoLe_cons rfl (stoLe_cons rfl stoLe_nil)))))))))⟩
                        · replace hr := cond_f c48 hr
                          refine awp_skip ?_
                          refine kblock_normal ?_
                          refine kthen_normal ?_
                          refine awp_region ?_
                          refine awpl_op rfl (opTo_q (d := 18) rfl rfl (ev_add rfl rfl)) ?_
                          refine awpl_op rfl (opTo_q (d := 8) rfl rfl ev_move) ?_
                          refine awpl_nil ?_
                          cases hr
                          exact ⟨rfl, (frLe_cons rfl (frLe_cons rfl (frLe_cons rfl (frLe_cons rfl frLe_nil)))), (stoLe_cons rfl (stoLe_cons rfl (stoLe_cons rfl (stoLe_cons rfl (stoLe_cons rfl (stoLe_cons rfl (stoLe_cons rfl (stoLe_cons rfl (stoLe_cons rfl (stoLe_cons rfl stoLe_nil))))))))))⟩
                      · replace hr := cond_f c45 hr
                        refine awp_exit ?_
                        refine kthen_exit ?_
                        cases hr
                        exact ⟨by simp, rfl, frLe_nil, (stoLe_cons rfl (stoLe_cons rfl (stoLe_cons rfl (stoLe_cons rfl (stoLe_cons rfl (stoLe_cons rfl (stoLe_cons rfl (stoLe_cons rfl (stoLe_cons rfl stoLe_nil)))))))))⟩
                    · intro e fr2 st2 hq
                      rcases o43 with b41 | b42
                      · obtain ⟨rfl, hf, hs⟩ := hq
                        replace hr := elim_l hr
                        refine kblock_exit ?_
                        refine kthen_normal ?_
                        refine awp_le hf hs ?_
                        refine awp_seq ?_
                        refine awp_region ?_
                        refine awpl_op rfl (opTo_q (d := 4) rfl rfl ev_assign) ?_
                        refine awpl_nil ?_
                        refine kthen_normal ?_
                        refine awp_ret ?_
                        refine inlK (cs := [.i ((-1))]) (fr'' := []) (σ'' := [(1399999, .sus g0.w.heap.size ds13), (1300000, .hold (.l TAlias.pc a0) (T13.getD 0 undef)), (1300002, .hold (.ptr 2 0) (T13.getD 2 undef)), (1300003, .hold (.i s4) (T13.getD 3 undef)), (1300009, .hold (.l TAlias.pc a0) (T13.getD 9 undef)), (1300010, .hold (.i ((a0.length : Int))) (T13.getD 10 undef)), (1300011, .hold (.i s4) (T13.getD 11 undef)), (2, .cells [.i 0, .i 0])]) (.inl rfl) frLe_refl stoLe_refl (.cons (res_tmp rfl) .nil) .nil rfl (stoLe_cons rfl (stoLe_cons rfl (stoLe_cons rfl (stoLe_cons rfl (stoLe_cons rfl (stoLe_cons rfl (stoLe_cons rfl (stoLe_cons rfl stoLe_nil)))))))) ?_
                        cases hr
                        exact jump14 _ _ _ rfl (frLe_cons rfl frLe_nil) (stoLe_cons rfl (stoLe_cons rfl (stoLe_cons rfl (stoLe_cons rfl (stoLe_cons rfl (stoLe_cons rfl (stoLe_cons rfl (stoLe_cons rfl stoLe_nil))))))))
                      · obtain ⟨rfl, hf, hs⟩ := hq
                        replace hr := elim_r hr
                        refine kblock_ret ?_
                        refine kthen_ret ?_
                        refine inlK (cs := [.i b42]) (fr'' := []) (σ'' := [(1399999, .sus g0.w.heap.size ds13), (1300000, .hold (.l TAlias.pc a0) (T13.getD 0 undef)), (1300002, .hold (.ptr 2 0) (T13.getD 2 undef)), (1300003, .hold (.i s4) (T13.getD 3 undef)), (1300009, .hold (.l TAlias.pc a0) (T13.getD 9 undef)), (1300010, .hold (.i ((a0.length : Int))) (T13.getD 10 undef)), (1300011, .hold (.i s4) (T13.getD 11 undef)), (2, .cells [.i 0, .i 0])]) (.inl rfl) hf hs (.cons (res_tmp rfl) .nil) .nil rfl (stoLe_cons rfl (stoLe_cons rfl (stoLe_cons rfl (stoLe_cons rfl (stoLe_cons rfl (stoLe_cons rfl (stoLe_cons rfl (stoLe_cons rfl stoLe_nil)))))))) ?_
                        cases hr
                        exact jump14 _ _ _ rfl (frLe_cons rfl frLe_nil) (stoLe_cons rfl (stoLe_cons rfl (stoLe_cons rfl (stoLe_cons rfl (stoLe_cons rfl (stoLe_cons rfl (stoLe_cons rfl (stoLe_cons rfl stoLe_nil))))))))
                  · rintro _ rfl
                    have hr := hy
                    clear hx hy
                    refine awpl_op rfl (opTo_q (d := 8) rfl rfl (ev_geq rfl rfl)) ?_
                    refine awpl_op rfl (opTo_q (d := 4) rfl rfl ev_assign) ?_
                    refine awpl_nil ?_
                    refine kthen_normal ?_
                    refine awp_ret ?_
                    refine inlK (cs := [.bo (decide (0 ≤ j39))]) (fr'' := [(0, .l TAlias.pc a0), (2, .ptr 2 0), (3, .i s4), (9, .l TAlias.pc a0), (10, .i ((a0.length : Int))), (11, .i s4)]) (σ'' := [(2, .cells [.i 0, .i 0])]) (.inl rfl) frLe_refl stoLe_refl (.cons (res_tmp rfl) .nil) (.cons rfl (.cons rfl (.cons rfl (.cons rfl (.cons rfl (.cons rfl .nil)))))) rfl (stoLe_cons rfl stoLe_nil) ?_
                    refine awpl_op rfl (opTo_q (d := 42) rfl rfl ev_assign) ?_
                    refine awpl_nil ?_
                    refine kthen_normal ?_
                    refine awp_cond rfl (fun c49 => ?_) (fun c49 => ?_)
                    · replace hr := cond_t c49 hr
                      refine awp_seq ?_
                      refine awp_region ?_
                      refine awpl_op rfl (opTo_q (d := 48) rfl rfl ev_move) ?_
                      obtain ⟨v50, h51, hr⟩ := bind_some hr
                      refine awpl_op rfl (opTo_call (k := 49) (basic_Fault_run 7 s4 v50 h51) rfl rfl) ?_
                      refine awpl_op rfl (opTo_store rfl rfl rfl ty_api_Fault rfl rfl) ?_
                      refine awpl_nil ?_
                      refine kthen_normal ?_
                      refine awp_ret ?_
                      refine kblock_ret ?_
                      refine kblock_ret ?_
                      refine kthen_ret ?_
                      cases hr
                      exact ⟨by simp, rfl, (frLe_cons rfl frLe_nil), (stoLe_cons rfl stoLe_nil)⟩
                    · replace hr := cond_f c49 hr
                      refine awp_skip ?_
                      refine kblock_normal ?_
                      refine kblock_normal ?_
                      refine kthen_normal ?_
                      refine awp_region ?_
                      refine awpl_op rfl (opTo_q (d := 50) rfl rfl (ev_add rfl rfl)) ?_
                      refine awpl_op rfl (opTo_q (d := 11) rfl rfl ev_move) ?_
                      refine awpl_nil ?_
                      cases hr
                      exact ⟨rfl, (frLe_cons rfl (frLe_cons rfl (frLe_cons rfl (frLe_cons rfl (frLe_cons rfl frLe_nil))))), (stoLe_cons rfl stoLe_nil)⟩
      · replace hr := cond_f c9 hr
        refine awp_exit ?_
        refine kthen_exit ?_
        cases hr
        exact ⟨by simp, rfl, (frLe_cons rfl frLe_nil), (stoLe_cons rfl stoLe_nil)⟩
    · intro e fr2 st2 hq
      rcases o7 with b5 | b6
      · obtain ⟨rfl, hf, hs⟩ := hq
        replace hr := elim_l hr
        refine kblock_exit ?_
        refine kthen_normal ?_
        refine awp_le hf hs ?_
        refine awp_seq ?_
        refine awp_region ?_
        obtain ⟨v52, h53, hr⟩ := bind_some hr
        refine awpl_op rfl (opTo_call (k := 51) (basic_None_run  v52 h53) rfl rfl) ?_
        refine awpl_op rfl (opTo_store rfl rfl rfl ty_api_Fault rfl rfl) ?_
        refine awpl_nil ?_
        refine kthen_normal ?_
        refine awp_ret ?_
        cases hr
        exact kret' rfl (.cons (res_cellN rfl rfl ty_api_Fault rfl rfl) .nil) rfl
      · obtain ⟨rfl, hf, hs⟩ := hq
        replace hr := elim_r hr
        refine kblock_ret ?_
        refine kthen_ret ?_
        cases hr
        exact kret' rfl (.cons (res1_le hf hs (res_cellN rfl rfl ty_api_Fault rfl rfl)) .nil) rfl
end Go.Proofs.Ytlpmbmilnoncdaa

/- A function of the program computes what its Lean function does. Written by program. -/
namespace Go.Proofs.Ytlpmbmilnoncdaa
open Go.RowKit
set_option maxRecDepth 100000
set_option maxHeartbeats 40000000
set_option linter.unusedVariables false
theorem basic_Failed_run (a0 : TFault) (r : Bool) (hr : basic_Failed a0 = some r) : Run Try.prog 45 [.agg [.i a0.Code, .i a0.Index]] (.bo r) := by
  unfold basic_Failed at hr
  refine run_of_awp (fn := Try.f45) ⟨Try.func45, rfl, by kernel_rfl⟩ rfl (fun _ => rfl) fun g0 hg => ?_
  refine awp_seq ?_
  refine awp_region ?_
  refine awpl_op rfl (opTo_box (k := 1) 1 rfl rfl rfl rfl rfl) ?_
  refine awpl_op rfl (opTo_q (d := 2) rfl rfl ev_assign) ?_
  refine awpl_nil ?_
  refine kthen_normal ?_
  refine awp_seq ?_
  refine awp_region ?_
  refine awpl_op rfl (opTo_q (d := 3) rfl rfl (ev_fieldAddr rfl ty_api_Fault.u rfl ty_int rfl)) ?_
  refine awpl_op rfl (opTo_q (d := 4) rfl rfl (ev_load rfl rfl ty_int rfl rfl)) ?_
  refine awpl_op rfl (opTo_q (d := 5) rfl rfl (ev_neq rfl rfl)) ?_
  refine awpl_op rfl (opTo_q (d := 2) rfl rfl ev_assign) ?_
  refine awpl_nil ?_
  refine kthen_normal ?_
  refine awp_ret ?_
  cases hr
  exact kret' rfl (.cons (res_tmp rfl) .nil) rfl
end Go.Proofs.Ytlpmbmilnoncdaa
