/- The law ListsModerationMatchesSpec holds for every input of bulk up to the given bound: it returns true and leaves its arguments as they were. Written by program. -/
import Derived.Test.YtkoijpogjobgjaaGreatKListsModerationMatchesSpec3
set_option linter.unusedVariables false
set_option linter.unusedSimpArgs false
namespace Go.Proofs.YtkoijpogjobgjaaGreat.listsModerationMatchesSpec
open Go.ChangeShapes Go.WideShapes Go.ChangeAt Go.RowKit
set_option linter.unusedVariables false
set_option maxRecDepth 100000

theorem contract (H : Type) (enc : TypeId × Value → H) (W : World) (base : Nat) (args : Array Value) (ds gs : List (DataW H)) (before : List MemPlace)
    (hval : ∀ (j : Nat) t v, Tryz.f4.params[j]? = some t → args[j]? = some v → Value.okWide Tryz.prog W .any base t v)
    (hW : DataW.Whole enc Tryz.prog Tryz.f4.params.toList Rows.listsModerationMatchesSpecSpec.vars false W args.toList ds gs before) (hk : Rows.uptoSmall H (ds ++ gs) = true) (hgl : Gl (gAll W)) :
    Calls Tryz.prog 4 args W fun e W' => ∃ v, e = .returned v ∧ Rows.listsModerationMatchesSpecSpec.post enc Tryz.prog Tryz.f4 false true false false W args v W' := by
  have hW' := hW
  obtain ⟨p, q, hA0, hV, rfl, hfz, hnd⟩ := hW
  have hA : DataW.TrodAll enc Tryz.prog W 0 (fun _ => true) true Tryz.f4.params.toList args.toList ds p := hA0
  rw [Tryz.params4] at hA hval
  obtain ⟨v0, vs0, d0, ds0, p0, q0, hargs, rfl, rfl, h0, r0⟩ := trodAll_cons hA
  obtain ⟨v1, vs1, d1, ds1, p1, q1, rfl, rfl, rfl, h1, r1⟩ := trodAll_cons r0
  obtain ⟨v2, vs2, d2, ds2, p2, q2, rfl, rfl, rfl, h2, r2⟩ := trodAll_cons r1
  obtain ⟨rfl, rfl, rfl⟩ := trodAll_nil r2
  obtain rfl : args = #[v0, v1, v2] := by cases args; simp_all
  obtain ⟨rfl, rfl⟩ := trodVars_none hV
  obtain ⟨a0, e0, o0, k0⟩ := arg_agg op_api_List (by obtain ⟨cs, h, _⟩ := okWide_struct ty_api_List.u (hval 0 _ v0 rfl rfl); exact ⟨cs, h⟩) h0
  obtain ⟨a1, e1, o1, k1⟩ := arg_one op_string (by obtain ⟨_, h⟩ := okWide_string ty_string.u (hval 1 _ v1 rfl rfl); rw [h]; rfl) h1
  obtain ⟨a2, e2, o2, k2⟩ := arg_one op_int (by obtain ⟨_, h⟩ := okWide_int ty_int.u (hval 2 _ v2 rfl rfl); rw [h]; rfl) h2
  have hk2 := of_decide_eq_true hk
  simp only [List.append_nil, Rows.uptoBulkAll] at hk2
  have ht := L_ListsModerationMatchesSpec_true a0 a1 a2 o0 o1 o2 (by (try dsimp only); omega)
  have key : Calls Tryz.prog 4 #[v0, v1, v2] W fun e W' => e = .returned (.bool true) ∧ Below W.heap.size W W' := calls_of_run (L_ListsModerationMatchesSpec_run a0 a1 a2 true ht) hgl (relArgs_of (.cons e0 (.cons (e1 _ rfl) (.cons (e2 _ rfl) .nil))))
  refine key.mono fun e W' ⟨he, hb⟩ => ⟨_, he, ?_⟩
  exact post_true laidOut (by kernel_rfl) Tryz.underlying4 (by kernel_rfl) rfl rfl hW' hb

theorem lifted (os : Os) (started : os.Started) (H : Type) (enc : TypeId × Value → H) (F : Stop.Interp) :
    ReturnsInHanded {} Tryz.checked os 4 .any ((Rows.OpenSpec.upto Rows.listsModerationMatchesSpecSpec).pre6 enc Tryz.prog Tryz.f4 Rows.listsModerationMatchesSpecUptoRow.domain false) (((Rows.OpenSpec.upto Rows.listsModerationMatchesSpecSpec).at F).post enc Tryz.prog Tryz.f4 false true false false) := by
  refine returnsInHanded_of_cond_shaped (C := Tryz.checked) (s := Rows.OpenSpec.upto Rows.listsModerationMatchesSpecSpec) (k := Rows.uptoSmall) rfl own started (by kernel_rfl) Tryz.func4
    (OpenSpec.witness (enc := enc) (C := Tryz.checked) (s := Rows.OpenSpec.upto Rows.listsModerationMatchesSpecSpec) (k := Rows.uptoSmall) rfl false ⟨#[], #[.agg #[.string ⟨#[]⟩, .string ⟨#[]⟩, .bool false, .slice none 0 0, .slice none 0 0, .slice none 0 0, .int .i64 0], .string ⟨#[]⟩, .int .i64 0], []⟩ 8 (by kernel_rfl) (by kernel_rfl) (by kernel_rfl)
      (x := ([.agg [.lit (.string []), .lit (.string []), .lit (.bool false), .nil, .nil, .nil, .lit (.int .i64 0)], .lit (.string []), .lit (.int .i64 0)], [], [])) (by kernel_rfl) rfl (by kernel_rfl)) ?_
  intro W base args ds gs before hval hW _ hk hsh _
  exact contract H enc W base args ds gs before hval hW hk (gl_of_shaped hsh)

theorem over : Rows.listsModerationMatchesSpecUptoRow.holds Tryz.pinned (Rows.OpenSpec.upto Rows.listsModerationMatchesSpecSpec) :=
  OpenClaim.holds_of_cond 4 Tryz.f4 rfl rfl rfl rfl rfl rfl rfl ⟨rfl, rfl, rfl, rfl, rfl⟩ rfl rfl rfl rfl rfl (by kernel_rfl) Tryz.func4 (by kernel_rfl)
    (of_decide_eq_true (by kernel_rfl)) (by unfold Func.isWrapper; first | (rw [if_pos (by decide +kernel)]; kernel_rfl) | (rw [if_neg (by decide +kernel)]; exact ⟨rfl, rfl⟩))
    (fun os started H enc _ F => lifted os started H enc F)

theorem proved : Rows.ListsModerationMatchesSpecUptoSaid := over
#print axioms proved
end Go.Proofs.YtkoijpogjobgjaaGreat.listsModerationMatchesSpec
