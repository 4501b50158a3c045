/- For every two tables, of whatever size, the law FnExactJoinTables returns true and leaves its arguments as they were. No condition. -/
import Derived.Test.YtjpldgicibnkcaaE8
import Derived.Test.YtjpldgicibnkcaaRow
namespace Go.Proofs.Ytjpldgicibnkcaa.fnExactJoinTables
open Go Go.RowKit Go.ChangeShapes Go.WideShapes Go.ChangeAt

theorem fit9 : Fit Try.prog 9 shStr := fit_str Try.underlying9
theorem fit22 : Fit Try.prog 22 (shSl shStr pos_shStr) := fit_slice _ Try.underlying22 (by kernel_rfl) fit9
theorem fit2 : Fit Try.prog 2 shI64 := fit_i64 Try.underlying2
theorem fit41 : Fit Try.prog 41 shRow := fit_slice _ Try.underlying41 (by kernel_rfl) fit2
theorem fit23 : Fit Try.prog 23 (shSl shRow pos_shRow) := fit_slice _ Try.underlying23 (by kernel_rfl) fit41
theorem fit25 : Fit Try.prog 25 shTab := fit_struct2 Try.underlying25 (by kernel_rfl) rfl rfl (by kernel_rfl) (by kernel_rfl) fit22 fit23
theorem own : ownKnob Try.prog.godebug = none := by kernel_rfl
theorem laidOut : laidOutB Try.prog = true := by kernel_rfl
set_option maxRecDepth 100000 in
theorem lifted (os : Os) (started : os.Started) (H : Type) (enc : TypeId × Value → H) :
    ReturnsInHanded {} Try.checked os 10 .any (Rows.fnExactJoinTablesSpec.pre6 enc Try.prog Try.f10 Rows.fnExactJoinTablesRow.domain false) (Rows.fnExactJoinTablesSpec.post enc Try.prog Try.f10 false true false false) := by
  refine returnsInHanded_of_change (C := Try.checked) own started (by kernel_rfl) Try.func10
    (ChangeSpec.witness6 (enc := enc) (C := Try.checked) false ⟨#[], #[(.agg #[.slice none 0 0, .slice none 0 0]), (.agg #[.slice none 0 0, .slice none 0 0])], []⟩ 8 (by kernel_rfl) (by kernel_rfl) (by kernel_rfl) (by kernel_rfl)) ?_
  intro W base args ds gs before hval0 hW hcnd _
  have hval : ∀ (j : Nat) t v, Try.f10.params[j]? = some t → args[j]? = some v → Value.okWide Try.prog W .any base t v := hval0
  have hW' := hW
  obtain ⟨p, q, hA0, hV, rfl, hfz, hnd⟩ := hW
  have hA : DataW.TrodAll enc Try.prog W 0 (fun _ => true) true Try.f10.params.toList args.toList ds p := hA0
  rw [Try.params10] at hA hval
  obtain ⟨v0, vs0, d0, ds0, p0, q0, hargs, rfl, rfl, h0, r0⟩ := trodAll_cons hA
  obtain ⟨v1, vs1, d1, ds1, p1, q1, rfl, rfl, rfl, h1, r1⟩ := trodAll_cons r0
  obtain ⟨rfl, rfl, rfl⟩ := trodAll_nil r1
  obtain rfl : args = #[v0, v1] := by cases args; simp_all
  obtain ⟨rfl, rfl⟩ := trodVars_none hV
  have k0 := h0
  have lt0 : ∀ x ∈ p0, x.block < W.heap.size := by obtain ⟨m, hm⟩ := k0; exact DataW.trod_lt m _ _ _ hm
  have k1 := h1
  have lt1 : ∀ x ∈ p1, x.block < W.heap.size := by obtain ⟨m, hm⟩ := k1; exact DataW.trod_lt m _ _ _ hm
  obtain ⟨c0, x0, rfl, e0⟩ := agg_of_trod Try.underlying25 fit25 (hval 0 25 v0 rfl rfl) h0
  obtain ⟨u0_0, u0_1, rfl, g0_0, g0_1⟩ := inv_shTab e0
  obtain ⟨c1, x1, rfl, e1⟩ := agg_of_trod Try.underlying25 fit25 (hval 1 25 v1 rfl rfl) h1
  obtain ⟨u1_0, u1_1, rfl, g1_0, g1_1⟩ := inv_shTab e1
  clear hA0 hval0
  refine (c_laws_FnExactJoinTables W u0_0 u0_1 x0 u1_0 u1_1 x1 g0_0 g0_1 g1_0 g1_1).mono fun e W' ⟨v, he, bel, hv⟩ => ?_
  subst he
  subst hv
  exact ⟨_, rfl, _, _, _, [], _, [], hW', trodAll_mk1 (shut_bool Try.underlying4 _), (trodAll_cons_mk (Below.trod laidOut (by kernel_rfl) (of_decide_eq_true (by kernel_rfl)) k0 bel lt0) (trodAll_cons_mk (Below.trod laidOut (by kernel_rfl) (of_decide_eq_true (by kernel_rfl)) k1 bel lt1) trodAll_mk0)), rfl, bel.frame _, fun h => by cases h⟩

theorem proved : Rows.FnExactJoinTablesSaid :=
  OpenClaim.holds_of_wide 10 Try.f10 rfl rfl rfl rfl rfl rfl rfl ⟨rfl, rfl, rfl, rfl, rfl⟩ rfl rfl rfl rfl rfl (by kernel_rfl) Try.func10 (by kernel_rfl)
    (of_decide_eq_true (by kernel_rfl)) (by unfold Func.isWrapper; first | (rw [if_pos (by decide +kernel)]; kernel_rfl) | (rw [if_neg (by decide +kernel)]; exact ⟨rfl, rfl⟩))
    (fun os started H enc _ => lifted os started H enc)
#print axioms proved
end Go.Proofs.Ytjpldgicibnkcaa.fnExactJoinTables
