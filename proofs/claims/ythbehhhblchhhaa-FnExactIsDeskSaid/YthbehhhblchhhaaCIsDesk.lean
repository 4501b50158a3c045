/- For every desk, of whatever size, the law FnExactIsDesk returns true and leaves its argument as it was. No condition. -/
import Derived.Test.YthbehhhblchhhaaE2
import Derived.Test.YthbehhhblchhhaaRow
namespace Go.Proofs.Ythbehhhblchhhaa.fnExactIsDesk
open Go Go.RowKit Go.ChangeShapes Go.WideShapes Go.ChangeAt

theorem fit9 : Fit Try.prog 9 shStr := fit_str Try.underlying9
theorem fit2 : Fit Try.prog 2 shI64 := fit_i64 Try.underlying2
theorem fit62 : Fit Try.prog 62 shBin := fit_struct5 Try.underlying62 (by kernel_rfl) rfl rfl rfl rfl rfl (by kernel_rfl) (by kernel_rfl) (by kernel_rfl) (by kernel_rfl) (by kernel_rfl) fit9 fit2 fit2 fit2 fit2
theorem fit23 : Fit Try.prog 23 (shSl shBin pos_shBin) := fit_slice _ Try.underlying23 (by kernel_rfl) fit62
theorem fit65 : Fit Try.prog 65 shProm := fit_struct3 Try.underlying65 (by kernel_rfl) rfl rfl rfl (by kernel_rfl) (by kernel_rfl) (by kernel_rfl) fit9 fit2 fit2
theorem fit24 : Fit Try.prog 24 (shSl shProm pos_shProm) := fit_slice _ Try.underlying24 (by kernel_rfl) fit65
theorem fit68 : Fit Try.prog 68 shEnt := fit_struct4 Try.underlying68 (by kernel_rfl) rfl rfl rfl rfl (by kernel_rfl) (by kernel_rfl) (by kernel_rfl) (by kernel_rfl) fit2 fit2 fit9 fit2
theorem fit25 : Fit Try.prog 25 (shSl shEnt pos_shEnt) := fit_slice _ Try.underlying25 (by kernel_rfl) fit68
theorem fit27 : Fit Try.prog 27 shDesk := fit_struct3 Try.underlying27 (by kernel_rfl) rfl rfl rfl (by kernel_rfl) (by kernel_rfl) (by kernel_rfl) fit23 fit24 fit25
theorem own : ownKnob Try.prog.godebug = none := by kernel_rfl
theorem laidOut : laidOutB Try.prog = true := by kernel_rfl
set_option maxRecDepth 100000 in
theorem lifted (os : Os) (started : os.Started) (H : Type) (enc : TypeId × Value → H) :
    ReturnsInHanded {} Try.checked os 4 .any (Rows.fnExactIsDeskSpec.pre6 enc Try.prog Try.f4 Rows.fnExactIsDeskRow.domain false) (Rows.fnExactIsDeskSpec.post enc Try.prog Try.f4 false true false false) := by
  refine returnsInHanded_of_change (C := Try.checked) own started (by kernel_rfl) Try.func4
    (ChangeSpec.witness6 (enc := enc) (C := Try.checked) false ⟨#[], #[(.agg #[.slice none 0 0, .slice none 0 0, .slice none 0 0])], []⟩ 8 (by kernel_rfl) (by kernel_rfl) (by kernel_rfl) (by kernel_rfl)) ?_
  intro W base args ds gs before hval0 hW hcnd _
  have hval : ∀ (j : Nat) t v, Try.f4.params[j]? = some t → args[j]? = some v → Value.okWide Try.prog W .any base t v := hval0
  have hW' := hW
  obtain ⟨p, q, hA0, hV, rfl, hfz, hnd⟩ := hW
  have hA : DataW.TrodAll enc Try.prog W 0 (fun _ => true) true Try.f4.params.toList args.toList ds p := hA0
  rw [Try.params4] at hA hval
  obtain ⟨v0, vs0, d0, ds0, p0, q0, hargs, rfl, rfl, h0, r0⟩ := trodAll_cons hA
  obtain ⟨rfl, rfl, rfl⟩ := trodAll_nil r0
  obtain rfl : args = #[v0] := by cases args; simp_all
  obtain ⟨rfl, rfl⟩ := trodVars_none hV
  have k0 := h0
  have lt0 : ∀ x ∈ p0, x.block < W.heap.size := by obtain ⟨m, hm⟩ := k0; exact DataW.trod_lt m _ _ _ hm
  obtain ⟨c0, x0, rfl, e0⟩ := agg_of_trod Try.underlying27 fit27 (hval 0 27 v0 rfl rfl) h0
  obtain ⟨u0_0, u0_1, u0_2, rfl, g0_0, g0_1, g0_2⟩ := inv_shDesk e0
  clear hA0 hval0
  refine (c_laws_FnExactIsDesk W u0_0 u0_1 u0_2 x0 g0_0 g0_1 g0_2).mono fun e W' ⟨v, he, bel, hv⟩ => ?_
  subst he
  subst hv
  exact ⟨_, rfl, _, _, _, [], _, [], hW', trodAll_mk1 (shut_bool Try.underlying4 _), (trodAll_cons_mk (Below.trod laidOut (by kernel_rfl) (of_decide_eq_true (by kernel_rfl)) k0 bel lt0) trodAll_mk0), rfl, bel.frame _, fun h => by cases h⟩

theorem proved : Rows.FnExactIsDeskSaid :=
  OpenClaim.holds_of_wide 4 Try.f4 rfl rfl rfl rfl rfl rfl rfl ⟨rfl, rfl, rfl, rfl, rfl⟩ rfl rfl rfl rfl rfl (by kernel_rfl) Try.func4 (by kernel_rfl)
    (of_decide_eq_true (by kernel_rfl)) (by unfold Func.isWrapper; first | (rw [if_pos (by decide +kernel)]; kernel_rfl) | (rw [if_neg (by decide +kernel)]; exact ⟨rfl, rfl⟩))
    (fun os started H enc _ => lifted os started H enc)
#print axioms proved
end Go.Proofs.Ythbehhhblchhhaa.fnExactIsDesk
