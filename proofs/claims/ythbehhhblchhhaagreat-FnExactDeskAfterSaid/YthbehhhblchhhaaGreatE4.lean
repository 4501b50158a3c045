/- The law DeskAfter, walked. -/
import Derived.Test.YthbehhhblchhhaaGreatX4
import Derived.Test.YthbehhhblchhhaaGreatX5
import Derived.Test.YthbehhhblchhhaaGreatL3
namespace Go.Proofs.YthbehhhblchhhaaGreat
open Go Go.RowKit
set_option maxHeartbeats 16000000

theorem c_laws_FnExactDeskAfter (w0 : World) (aText : Str) (g0 : aText.length ≤ 9223372036854775807) :
    Calls Tryz.prog 4 #[St aText] w0 (Ret w0 (fun v _ => v = .bool (true))) := by
 refine enter (N := 66) Tryz.func4 rfl rfl rfl ?_
 intro A H
 have hx0 := Ext.rfl' w0
 have hcl := rcL_len aText
 obtain ⟨_, _, _, hcd1, hcd2, hcd3⟩ := desk_bd (rcD_ok aText)
 revert A; refine go ?_; intro A H
 refine wv H (op_len_str H rfl U9 rfl) ?_
 clear H A; refine go ?_; intro A H
 by_cases c5 : (1048576 : Int) < ((aText.length : Nat) : Int)
 rw [decide_eq_true c5] at H
 revert A; refine go ?_; intro A H
 refine ret1 H rfl rfl ?_
 clear H A
 exact ret_mk hx0 (congrArg Value.bool (by rfl))
 rw [decide_eq_false c5] at H
 revert A; refine go ?_; intro A H
 refine wc H cb15 (c_spec_DeskAfter _ aText (by omega)) ?_
 clear H A; rintro v8 w9 he10 ⟨u11, u13, u15, rfl, ho12, ho14, ho16⟩ A H
 obtain ⟨hx18, _⟩ := nx hx0 he10
 revert A; refine go ?_; intro A H
 refine we H (op_alloc' rfl ti34 rfl) ?_
 clear H A; rintro _ w23 ⟨rfl, he24, hb25, hz26⟩ A H
 obtain ⟨hx28, _⟩ := nx hx18 he24
 replace ho12 := ho12.ext he24
 replace ho14 := ho14.ext he24
 replace ho16 := ho16.ext he24
 refine ws H (op_storeAll' H rfl ti34 rfl rfl hb25 rfl rfl (o1 ho12.one (o1 ho14.one (o1 ho16.one o0))) rfl) ?_
 rintro w29 ⟨hb31, hst30, hz32⟩
 obtain ⟨hx33, _⟩ := nb hx28 hst30
 replace ho12 := ho12.stp hst30 (by intro q hq; cases hq; omega)
 replace ho14 := ho14.stp hst30 (by intro q hq; cases hq; omega)
 replace ho16 := ho16.stp hst30 (by intro q hq; cases hq; omega)
 clear hb25
 revert A; refine go ?_; intro A H
 refine wc H cb16 (c_impl_DeskAfter _ aText (by omega)) ?_
 clear H A; rintro v36 w37 he38 ⟨u39, u41, u43, rfl, ho40, ho42, ho44⟩ A H
 obtain ⟨hx46, _⟩ := nx hx33 he38
 replace ho12 := ho12.ext he38
 replace ho14 := ho14.ext he38
 replace ho16 := ho16.ext he38
 replace hb31 := hb31.ext he38
 revert A; refine go ?_; intro A H
 refine we H (op_alloc' rfl ti34 rfl) ?_
 clear H A; rintro _ w51 ⟨rfl, he52, hb53, hz54⟩ A H
 obtain ⟨hx56, _⟩ := nx hx46 he52
 replace ho12 := ho12.ext he52
 replace ho14 := ho14.ext he52
 replace ho16 := ho16.ext he52
 replace hb31 := hb31.ext he52
 replace ho40 := ho40.ext he52
 replace ho42 := ho42.ext he52
 replace ho44 := ho44.ext he52
 refine ws H (op_storeAll' H rfl ti34 rfl rfl hb53 rfl rfl (o1 ho40.one (o1 ho42.one (o1 ho44.one o0))) rfl) ?_
 rintro w57 ⟨hb59, hst58, hz60⟩
 obtain ⟨hx61, _⟩ := nb hx56 hst58
 replace ho12 := ho12.stp hst58 (by intro q hq; cases hq; omega)
 replace ho14 := ho14.stp hst58 (by intro q hq; cases hq; omega)
 replace ho16 := ho16.stp hst58 (by intro q hq; cases hq; omega)
 replace hb31 := bb hb31 hst58
 replace ho40 := ho40.stp hst58 (by intro q hq; cases hq; omega)
 replace ho42 := ho42.stp hst58 (by intro q hq; cases hq; omega)
 replace ho44 := ho44.stp hst58 (by intro q hq; cases hq; omega)
 clear hb53
 revert A; refine go ?_; intro A H
 refine wv H (ls H U34 ti34 hb59.cells) ?_
 clear H A; intro A H
 refine wv H (ls H U34 ti34 hb31.cells) ?_
 clear H A; intro A H
 refine wc H cb17 (c_laws_eqDesk _ u39 u41 u43 ((rcD aText)) u11 u13 u15 ((rcD aText)) (ho40.rds pos_shBin) (ho42.rds pos_shProm) (ho44.rds pos_shEnt) (ho12.rds pos_shBin) (ho14.rds pos_shProm) (ho16.rds pos_shEnt)) ?_
 clear H A; rintro v65 w66 he67 rfl A H
 obtain ⟨hx69, _⟩ := nx hx61 he67
 replace ho12 := ho12.ext he67
 replace ho14 := ho14.ext he67
 replace ho16 := ho16.ext he67
 replace hb31 := hb31.ext he67
 replace ho40 := ho40.ext he67
 replace ho42 := ho42.ext he67
 replace ho44 := ho44.ext he67
 replace hb59 := hb59.ext he67
 revert A; refine go ?_; intro A H
 rcases Bool.eq_false_or_eq_true (decide (((rcD aText)) = ((rcD aText)))) with c72 | c72
 rw [c72] at H
 revert A; refine go ?_; intro A H
 by_cases c77 : (rcC aText : Int) = (rcC aText : Int)
 rw [decide_eq_true c77] at H
 revert A; refine go ?_; intro A H
 refine wv H (ls H U34 ti34 hb59.cells) ?_
 clear H A; intro A H
 refine wv H (op_move H rfl rfl) ?_
 clear H A; intro A H
 have hm87 := c_laws_markDesk (lo_a := w29.heap.size) (hi_a := w37.heap.size) _ u39 (((rcD aText).1)) u41 (((rcD aText).2.1)) u43 (((rcD aText).2.2)) (1 : Int) (fi ho40) (fi ho42) (fi ho44) (by omega) (by omega) (by omega) (by simp; omega) (by simp; omega) (by simp; omega)
 refine wl_callI H rfl rfl rfl (op_call H rfl cb18 rfl) (hm87) ?_
 clear H A; rintro v81 w82 he83 ⟨rfl, ho84, ho85, ho86⟩ A H
 have hx89 := hx69.stpI he83 (by omega)
 have hzhx89 := he83.size
 replace ho12 := ho12.stpI he83 (by omega)
 replace ho14 := ho14.stpI he83 (by omega)
 replace ho16 := ho16.stpI he83 (by omega)
 replace hb31 := hb31.stpI he83 (by omega)
 replace hb59 := hb59.stpI he83 (by omega)
 clear ho40 ho42 ho44
 revert A; refine go ?_; intro A H
 refine wv H (ls H U34 ti34 hb59.cells) ?_
 clear H A; intro A H
 refine wv H (op_move H rfl rfl) ?_
 clear H A; intro A H
 refine wc H cb19 (c_laws_heldDesk _ u39 u41 u43 ((mkDk ((((rcD aText).1), ((rcD aText).2.1), ((rcD aText).2.2)) : List (Str × Int × Int × Int × Int) × List (Str × Int × Int) × List (Int × Int × Str × Int)) ((1 : Int)))) (1 : Int) (ho84.rds pos_shBin) (ho85.rds pos_shProm) (ho86.rds pos_shEnt) (by omega) (by omega) (by simp [mkDk_1]; omega) (by simp [mkDk_2]; omega) (by simp [mkDk_3]; omega)) ?_
 clear H A; rintro v94 w95 he96 rfl A H
 obtain ⟨hx98, _⟩ := nx hx89 he96
 replace ho12 := ho12.ext he96
 replace ho14 := ho14.ext he96
 replace ho16 := ho16.ext he96
 replace hb31 := hb31.ext he96
 replace hb59 := hb59.ext he96
 replace ho84 := ho84.ext he96
 replace ho85 := ho85.ext he96
 replace ho86 := ho86.ext he96
 revert A; refine go ?_; intro A H
 by_cases c102 : (heldDk ((mkDk ((((rcD aText).1), ((rcD aText).2.1), ((rcD aText).2.2)) : List (Str × Int × Int × Int × Int) × List (Str × Int × Int) × List (Int × Int × Str × Int)) ((1 : Int)))) (1 : Int) : Int) < (0 : Int)
 rw [decide_eq_true c102] at H
 clear ho12 ho14 ho16 hb31 hb59 ho84 ho85 ho86
 revert A; refine go ?_; intro A H
 refine ret1 H rfl rfl ?_
 clear H A
 exact ret_mk hx98 (congrArg Value.bool (by simp [held_mkDk, kkDk_nn] at c102))
 rw [decide_eq_false c102] at H
 revert A; refine go ?_; intro A H
 by_cases c107 : (heldDk ((mkDk ((((rcD aText).1), ((rcD aText).2.1), ((rcD aText).2.2)) : List (Str × Int × Int × Int × Int) × List (Str × Int × Int) × List (Int × Int × Str × Int)) ((1 : Int)))) (1 : Int) : Int) = (kkDk ((((rcD aText).1), ((rcD aText).2.1), ((rcD aText).2.2)) : List (Str × Int × Int × Int × Int) × List (Str × Int × Int) × List (Int × Int × Str × Int)) ((1 : Int)) : Int)
 rw [decide_eq_true c107] at H
 revert A; refine go ?_; intro A H
 refine wc H cb16 (c_impl_DeskAfter _ aText (by omega)) ?_
 clear H A; rintro v109 w110 he111 ⟨u112, u114, u116, rfl, ho113, ho115, ho117⟩ A H
 obtain ⟨hx119, _⟩ := nx hx98 he111
 replace ho12 := ho12.ext he111
 replace ho14 := ho14.ext he111
 replace ho16 := ho16.ext he111
 replace hb31 := hb31.ext he111
 replace hb59 := hb59.ext he111
 replace ho84 := ho84.ext he111
 replace ho85 := ho85.ext he111
 replace ho86 := ho86.ext he111
 revert A; refine go ?_; intro A H
 refine we H (op_alloc' rfl ti34 rfl) ?_
 clear H A; rintro _ w124 ⟨rfl, he125, hb126, hz127⟩ A H
 obtain ⟨hx129, _⟩ := nx hx119 he125
 replace ho12 := ho12.ext he125
 replace ho14 := ho14.ext he125
 replace ho16 := ho16.ext he125
 replace hb31 := hb31.ext he125
 replace hb59 := hb59.ext he125
 replace ho84 := ho84.ext he125
 replace ho85 := ho85.ext he125
 replace ho86 := ho86.ext he125
 replace ho113 := ho113.ext he125
 replace ho115 := ho115.ext he125
 replace ho117 := ho117.ext he125
 refine ws H (op_storeAll' H rfl ti34 rfl rfl hb126 rfl rfl (o1 ho113.one (o1 ho115.one (o1 ho117.one o0))) rfl) ?_
 rintro w130 ⟨hb132, hst131, hz133⟩
 obtain ⟨hx134, _⟩ := nb hx129 hst131
 replace ho12 := ho12.stp hst131 (by intro q hq; cases hq; omega)
 replace ho14 := ho14.stp hst131 (by intro q hq; cases hq; omega)
 replace ho16 := ho16.stp hst131 (by intro q hq; cases hq; omega)
 replace hb31 := bb hb31 hst131
 replace hb59 := bb hb59 hst131
 replace ho84 := ho84.stp hst131 (by intro q hq; cases hq; omega)
 replace ho85 := ho85.stp hst131 (by intro q hq; cases hq; omega)
 replace ho86 := ho86.stp hst131 (by intro q hq; cases hq; omega)
 replace ho113 := ho113.stp hst131 (by intro q hq; cases hq; omega)
 replace ho115 := ho115.stp hst131 (by intro q hq; cases hq; omega)
 replace ho117 := ho117.stp hst131 (by intro q hq; cases hq; omega)
 clear hb126
 revert A; refine go ?_; intro A H
 refine wv H (ls H U34 ti34 hb132.cells) ?_
 clear H A; intro A H
 refine wv H (ls H U34 ti34 hb31.cells) ?_
 clear H A; intro A H
 refine wc H cb17 (c_laws_eqDesk _ u112 u114 u116 ((rcD aText)) u11 u13 u15 ((rcD aText)) (ho113.rds pos_shBin) (ho115.rds pos_shProm) (ho117.rds pos_shEnt) (ho12.rds pos_shBin) (ho14.rds pos_shProm) (ho16.rds pos_shEnt)) ?_
 clear H A; rintro v138 w139 he140 rfl A H
 obtain ⟨hx142, _⟩ := nx hx134 he140
 replace ho12 := ho12.ext he140
 replace ho14 := ho14.ext he140
 replace ho16 := ho16.ext he140
 replace hb31 := hb31.ext he140
 replace hb59 := hb59.ext he140
 replace ho84 := ho84.ext he140
 replace ho85 := ho85.ext he140
 replace ho86 := ho86.ext he140
 replace ho113 := ho113.ext he140
 replace ho115 := ho115.ext he140
 replace ho117 := ho117.ext he140
 replace hb132 := hb132.ext he140
 revert A; refine go ?_; intro A H
 rw [c72] at H
 revert A; refine go ?_; intro A H
 rw [decide_eq_true c77] at H
 clear ho12 ho14 ho16 hb31 ho113 ho115 ho117 hb132
 revert A; refine go ?_; intro A H
 refine wv H (ls H U34 ti34 hb59.cells) ?_
 clear H A; intro A H
 refine wv H (op_move H rfl rfl) ?_
 clear H A; intro A H
 refine wc H cb19 (c_laws_heldDesk _ u39 u41 u43 ((mkDk ((((rcD aText).1), ((rcD aText).2.1), ((rcD aText).2.2)) : List (Str × Int × Int × Int × Int) × List (Str × Int × Int) × List (Int × Int × Str × Int)) ((1 : Int)))) (1 : Int) (ho84.rds pos_shBin) (ho85.rds pos_shProm) (ho86.rds pos_shEnt) (by omega) (by omega) (by simp [mkDk_1]; omega) (by simp [mkDk_2]; omega) (by simp [mkDk_3]; omega)) ?_
 clear H A; rintro v152 w153 he154 rfl A H
 obtain ⟨hx156, _⟩ := nx hx142 he154
 replace hb59 := hb59.ext he154
 replace ho84 := ho84.ext he154
 replace ho85 := ho85.ext he154
 replace ho86 := ho86.ext he154
 clear hb59 ho84 ho85 ho86
 revert A; refine go ?_; intro A H
 rw [decide_eq_false c102] at H
 revert A; refine go ?_; intro A H
 rw [decide_eq_true c107] at H
 revert A; refine go ?_; intro A H
 refine ret1 H rfl rfl ?_
 clear H A
 exact ret_mk hx156 (congrArg Value.bool (by rfl))
 rw [decide_eq_false c107] at H
 clear ho12 ho14 ho16 hb31 hb59 ho84 ho85 ho86
 revert A; refine go ?_; intro A H
 refine ret1 H rfl rfl ?_
 clear H A
 exact ret_mk hx98 (congrArg Value.bool (by simp [held_mkDk] at c107))
 rw [decide_eq_false c77] at H
 clear ho12 ho14 ho16 hb31 ho40 ho42 ho44 hb59
 revert A; refine go ?_; intro A H
 refine ret1 H rfl rfl ?_
 clear H A
 exact ret_mk hx69 (congrArg Value.bool (by omega))
 rw [c72] at H
 clear ho12 ho14 ho16 hb31 ho40 ho42 ho44 hb59
 revert A; refine go ?_; intro A H
 refine ret1 H rfl rfl ?_
 clear H A
 exact ret_mk hx69 (congrArg Value.bool (by simp at c72))




end Go.Proofs.YthbehhhblchhhaaGreat
