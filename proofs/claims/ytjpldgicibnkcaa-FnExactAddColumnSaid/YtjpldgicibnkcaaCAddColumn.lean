/- For every table, of whatever size, every text and all numbers, the law FnExactAddColumn returns true and leaves its arguments as they were. No condition. -/
import Derived.Test.YtjpldgicibnkcaaE7
import Derived.Test.YtjpldgicibnkcaaRow
namespace Go.Proofs.Ytjpldgicibnkcaa.fnExactAddColumn
open Go Go.RowKit Go.ChangeShapes Go.WideShapes Go.ChangeAt

theorem fit9 : Fit Try.prog 9 shStr := fit_str Try.underlying9
theorem fit22 : Fit Try.prog 22 (shSl shStr pos_shStr) := fit_slice _ Try.underlying22 (by kernel_rfl) fit9
theorem fit2 : Fit Try.prog 2 shI64 := fit_i64 Try.underlying2
theorem fit41 : Fit Try.prog 41 shRow := fit_slice _ Try.underlying41 (by kernel_rfl) fit2
theorem fit23 : Fit Try.prog 23 (shSl shRow pos_shRow) := fit_slice _ Try.underlying23 (by kernel_rfl) fit41
theorem fit25 : Fit Try.prog 25 shTab := fit_struct2 Try.underlying25 (by kernel_rfl) rfl rfl (by kernel_rfl) (by kernel_rfl) fit22 fit23
theorem own : ownKnob Try.prog.godebug = none := by kernel_rfl
theorem laidOut : laidOutB Try.prog = true := by kernel_rfl
set_option maxRecDepth 100000 in
theorem lifted (os : Os) (started : os.Started) (H : Type) (enc : TypeId × Value → H) :
    ReturnsInHanded {} Try.checked os 12 .any (Rows.fnExactAddColumnSpec.pre6 enc Try.prog Try.f12 Rows.fnExactAddColumnRow.domain false) (Rows.fnExactAddColumnSpec.post enc Try.prog Try.f12 false true false false) := by
  refine returnsInHanded_of_change (C := Try.checked) own started (by kernel_rfl) Try.func12
    (ChangeSpec.witness6 (enc := enc) (C := Try.checked) false ⟨#[], #[(.agg #[.slice none 0 0, .slice none 0 0]), (St (([] : Str))), (.int .i64 (0 : Int)), (.int .i64 (0 : Int)), (.int .i64 (0 : Int))], []⟩ 8 (by kernel_rfl) (by kernel_rfl) (by kernel_rfl) (by kernel_rfl)) ?_
  intro W base args ds gs before hval0 hW hcnd _
  have hval : ∀ (j : Nat) t v, Try.f12.params[j]? = some t → args[j]? = some v → Value.okWide Try.prog W .any base t v := hval0
  have hW' := hW
  obtain ⟨p, q, hA0, hV, rfl, hfz, hnd⟩ := hW
  have hA : DataW.TrodAll enc Try.prog W 0 (fun _ => true) true Try.f12.params.toList args.toList ds p := hA0
  rw [Try.params12] at hA hval
  obtain ⟨v0, vs0, d0, ds0, p0, q0, hargs, rfl, rfl, h0, r0⟩ := trodAll_cons hA
  obtain ⟨v1, vs1, d1, ds1, p1, q1, rfl, rfl, rfl, h1, r1⟩ := trodAll_cons r0
  obtain ⟨v2, vs2, d2, ds2, p2, q2, rfl, rfl, rfl, h2, r2⟩ := trodAll_cons r1
  obtain ⟨v3, vs3, d3, ds3, p3, q3, rfl, rfl, rfl, h3, r3⟩ := trodAll_cons r2
  obtain ⟨v4, vs4, d4, ds4, p4, q4, rfl, rfl, rfl, h4, r4⟩ := trodAll_cons r3
  obtain ⟨rfl, rfl, rfl⟩ := trodAll_nil r4
  obtain rfl : args = #[v0, v1, v2, v3, v4] := by cases args; simp_all
  obtain ⟨rfl, rfl⟩ := trodVars_none hV
  have k0 := h0
  have lt0 : ∀ x ∈ p0, x.block < W.heap.size := by obtain ⟨m, hm⟩ := k0; exact DataW.trod_lt m _ _ _ hm
  have k1 := h1
  have lt1 : ∀ x ∈ p1, x.block < W.heap.size := by obtain ⟨m, hm⟩ := k1; exact DataW.trod_lt m _ _ _ hm
  have k2 := h2
  have lt2 : ∀ x ∈ p2, x.block < W.heap.size := by obtain ⟨m, hm⟩ := k2; exact DataW.trod_lt m _ _ _ hm
  have k3 := h3
  have lt3 : ∀ x ∈ p3, x.block < W.heap.size := by obtain ⟨m, hm⟩ := k3; exact DataW.trod_lt m _ _ _ hm
  have k4 := h4
  have lt4 : ∀ x ∈ p4, x.block < W.heap.size := by obtain ⟨m, hm⟩ := k4; exact DataW.trod_lt m _ _ _ hm
  obtain ⟨c0, x0, rfl, e0⟩ := agg_of_trod Try.underlying25 fit25 (hval 0 25 v0 rfl rfl) h0
  obtain ⟨u0_0, u0_1, rfl, g0_0, g0_1⟩ := inv_shTab e0
  obtain ⟨x1, rfl, e1⟩ := str_of_trod Try.underlying9 (hval 1 9 v1 rfl rfl) h1
  obtain ⟨x2, rfl, e2⟩ := int_of_trod Try.underlying2 (hval 2 2 v2 rfl rfl) h2
  obtain ⟨x3, rfl, e3⟩ := int_of_trod Try.underlying2 (hval 3 2 v3 rfl rfl) h3
  obtain ⟨x4, rfl, e4⟩ := int_of_trod Try.underlying2 (hval 4 2 v4 rfl rfl) h4
  clear hA0 hval0
  refine (c_laws_FnExactAddColumn W u0_0 u0_1 x0 x1 x2 x3 x4 g0_0 g0_1 (by assumption) (by assumption) (by assumption) (by assumption)).mono fun e W' ⟨v, he, bel, hv⟩ => ?_
  subst he
  subst hv
  exact ⟨_, rfl, _, _, _, [], _, [], hW', trodAll_mk1 (shut_bool Try.underlying4 _), (trodAll_cons_mk (Below.trod laidOut (by kernel_rfl) (of_decide_eq_true (by kernel_rfl)) k0 bel lt0) (trodAll_cons_mk (Below.trod laidOut (by kernel_rfl) (of_decide_eq_true (by kernel_rfl)) k1 bel lt1) (trodAll_cons_mk (Below.trod laidOut (by kernel_rfl) (of_decide_eq_true (by kernel_rfl)) k2 bel lt2) (trodAll_cons_mk (Below.trod laidOut (by kernel_rfl) (of_decide_eq_true (by kernel_rfl)) k3 bel lt3) (trodAll_cons_mk (Below.trod laidOut (by kernel_rfl) (of_decide_eq_true (by kernel_rfl)) k4 bel lt4) trodAll_mk0))))), rfl, bel.frame _, fun h => by cases h⟩

theorem proved : Rows.FnExactAddColumnSaid :=
  OpenClaim.holds_of_wide 12 Try.f12 rfl rfl rfl rfl rfl rfl rfl ⟨rfl, rfl, rfl, rfl, rfl⟩ rfl rfl rfl rfl rfl (by kernel_rfl) Try.func12 (by kernel_rfl)
    (of_decide_eq_true (by kernel_rfl)) (by unfold Func.isWrapper; first | (rw [if_pos (by decide +kernel)]; kernel_rfl) | (rw [if_neg (by decide +kernel)]; exact ⟨rfl, rfl⟩))
    (fun os started H enc _ => lifted os started H enc)
#print axioms proved
end Go.Proofs.Ytjpldgicibnkcaa.fnExactAddColumn
