/- For every list of versions, of whatever size, and all numbers, the law FnExactMergeVersions returns true and leaves its argument as it was. No condition. -/
import Derived.Test.YtllpdkidaldkiaaE2
import Derived.Test.YtllpdkidaldkiaaRow
namespace Go.Proofs.Ytllpdkidaldkiaa.fnExactMergeVersions
open Go Go.RowKit Go.ChangeShapes Go.WideShapes Go.ChangeAt

theorem fit2 : Fit Try.prog 2 shI64 := fit_i64 Try.underlying2
theorem fit9 : Fit Try.prog 9 shStr := fit_str Try.underlying9
theorem fit104 : Fit Try.prog 104 shLine := fit_struct2 Try.underlying104 (by kernel_rfl) rfl rfl (by kernel_rfl) (by kernel_rfl) fit9 fit2
theorem fit67 : Fit Try.prog 67 shLns := fit_slice _ Try.underlying67 (by kernel_rfl) fit104
theorem fit69 : Fit Try.prog 69 shVer := fit_struct2 Try.underlying69 (by kernel_rfl) rfl rfl (by kernel_rfl) (by kernel_rfl) fit2 fit67
theorem fit22 : Fit Try.prog 22 (shSl shVer pos_shVer) := fit_slice _ Try.underlying22 (by kernel_rfl) fit69
theorem own : ownKnob Try.prog.godebug = none := by kernel_rfl
theorem laidOut : laidOutB Try.prog = true := by kernel_rfl
set_option maxRecDepth 100000 in
theorem lifted (os : Os) (started : os.Started) (H : Type) (enc : TypeId × Value → H) :
    ReturnsInHanded {} Try.checked os 4 .any (Rows.fnExactMergeVersionsSpec.pre6 enc Try.prog Try.f4 Rows.fnExactMergeVersionsRow.domain false) (Rows.fnExactMergeVersionsSpec.post enc Try.prog Try.f4 false true false false) := by
  refine returnsInHanded_of_change (C := Try.checked) own started (by kernel_rfl) Try.func4
    (ChangeSpec.witness6 (enc := enc) (C := Try.checked) false ⟨#[], #[(.slice none 0 0), (.int .i64 (0 : Int)), (.int .i64 (0 : Int))], []⟩ 8 (by kernel_rfl) (by kernel_rfl) (by kernel_rfl) (by kernel_rfl)) ?_
  intro W base args ds gs before hval0 hW hcnd _
  have hval : ∀ (j : Nat) t v, Try.f4.params[j]? = some t → args[j]? = some v → Value.okWide Try.prog W .any base t v := hval0
  have hW' := hW
  obtain ⟨p, q, hA0, hV, rfl, hfz, hnd⟩ := hW
  have hA : DataW.TrodAll enc Try.prog W 0 (fun _ => true) true Try.f4.params.toList args.toList ds p := hA0
  rw [Try.params4] at hA hval
  obtain ⟨v0, vs0, d0, ds0, p0, q0, hargs, rfl, rfl, h0, r0⟩ := trodAll_cons hA
  obtain ⟨v1, vs1, d1, ds1, p1, q1, rfl, rfl, rfl, h1, r1⟩ := trodAll_cons r0
  obtain ⟨v2, vs2, d2, ds2, p2, q2, rfl, rfl, rfl, h2, r2⟩ := trodAll_cons r1
  obtain ⟨rfl, rfl, rfl⟩ := trodAll_nil r2
  obtain rfl : args = #[v0, v1, v2] := by cases args; simp_all
  obtain ⟨rfl, rfl⟩ := trodVars_none hV
  have k0 := h0
  have lt0 : ∀ x ∈ p0, x.block < W.heap.size := by obtain ⟨m, hm⟩ := k0; exact DataW.trod_lt m _ _ _ hm
  have k1 := h1
  have lt1 : ∀ x ∈ p1, x.block < W.heap.size := by obtain ⟨m, hm⟩ := k1; exact DataW.trod_lt m _ _ _ hm
  have k2 := h2
  have lt2 : ∀ x ∈ p2, x.block < W.heap.size := by obtain ⟨m, hm⟩ := k2; exact DataW.trod_lt m _ _ _ hm
  obtain ⟨x0, e0⟩ := rds_of_trod _ Try.underlying22 fit22 (hval 0 22 v0 rfl rfl) h0
  obtain ⟨x1, rfl, e1⟩ := int_of_trod Try.underlying2 (hval 1 2 v1 rfl rfl) h1
  obtain ⟨x2, rfl, e2⟩ := int_of_trod Try.underlying2 (hval 2 2 v2 rfl rfl) h2
  clear hA0 hval0
  refine (c_laws_FnExactMergeVersions W v0 x0 x1 x2 e0 (by assumption) (by assumption)).mono fun e W' ⟨v, he, bel, hv⟩ => ?_
  subst he
  subst hv
  exact ⟨_, rfl, _, _, _, [], _, [], hW', trodAll_mk1 (shut_bool Try.underlying4 _), (trodAll_cons_mk (Below.trod laidOut (by kernel_rfl) (of_decide_eq_true (by kernel_rfl)) k0 bel lt0) (trodAll_cons_mk (Below.trod laidOut (by kernel_rfl) (of_decide_eq_true (by kernel_rfl)) k1 bel lt1) (trodAll_cons_mk (Below.trod laidOut (by kernel_rfl) (of_decide_eq_true (by kernel_rfl)) k2 bel lt2) trodAll_mk0))), rfl, bel.frame _, fun h => by cases h⟩

theorem proved : Rows.FnExactMergeVersionsSaid :=
  OpenClaim.holds_of_wide 4 Try.f4 rfl rfl rfl rfl rfl rfl rfl ⟨rfl, rfl, rfl, rfl, rfl⟩ rfl rfl rfl rfl rfl (by kernel_rfl) Try.func4 (by kernel_rfl)
    (of_decide_eq_true (by kernel_rfl)) (by unfold Func.isWrapper; first | (rw [if_pos (by decide +kernel)]; kernel_rfl) | (rw [if_neg (by decide +kernel)]; exact ⟨rfl, rfl⟩))
    (fun os started H enc _ => lifted os started H enc)
#print axioms proved
end Go.Proofs.Ytllpdkidaldkiaa.fnExactMergeVersions
