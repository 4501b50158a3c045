/- Desks drawn. -/
import Derived.Test.YthbehhhblchhhaaGreatR2
import Derived.Test.YthbehhhblchhhaaGreatR3
import Derived.Test.YthbehhhblchhhaaGreatX4
namespace Go.Proofs.YthbehhhblchhhaaGreat
open Go Go.RowKit
set_option maxHeartbeats 16000000

theorem c_spec_DrawIsDesk (w0 : World) (v_code : Value) (code : List UInt8) {S_code : Nat → Prop} (h_code : Rds shU8 S_code w0 v_code code) :
    Calls Tryz.prog 21 #[v_code] w0 (Ret w0 (fun v w1 => ∃ (d : Dsk), (d.1.length ≤ 100) ∧ (d.2.1.length ≤ 100) ∧ (d.2.2.length ≤ 100) ∧ (fun v w1 => ∃ r0_0 r0_1 r0_2, v = .agg #[r0_0, r0_1, r0_2] ∧ Own shBin 65 w0.heap.size w0.heap.size w1.heap.size w1 r0_0 ((d).1) ∧ Own shProm 67 w0.heap.size w0.heap.size w1.heap.size w1 r0_1 ((d).2.1) ∧ Own shEnt 69 w0.heap.size w0.heap.size w1.heap.size w1 r0_2 ((d).2.2)) v w1)) := by
 refine enter (N := 32) Tryz.func21 rfl rfl rfl ?_
 intro A H
 have hx0 := Ext.rfl' w0
 have hl_code := h_code.length_le
 revert A; refine go ?_; intro A H
 refine we H (op_alloc' rfl ti34 rfl) ?_
 clear H A; rintro _ w2 ⟨rfl, he3, hb4, hz5⟩ A H
 obtain ⟨hx7, _⟩ := nx hx0 he3
 revert A; refine go ?_; intro A H
 refine wc H cb31 (c_spec_l01From _ v_code code (h_code.low pos_shU8 hx7 (Nat.le_refl _)) (by omega)) ?_
 clear H A; rintro v9 w10 he11 ⟨g12, rfl, hg13, hS14⟩ A H
 obtain ⟨hx16, _⟩ := nx hx7 he11
 replace hb4 := hb4.ext he11
 have hSlhS14 := hS14.lt
 revert A; refine go ?_; intro A H
 refine wl_callS H rfl rfl rfl (op_call H rfl cb30 rfl) (c_spec_l34Draw _ g12 w0.heap.size hS14) ?_
 clear H A; rintro v19 w20 he21 ⟨hS22, ⟨q23, hq24, rfl⟩⟩ A H
 obtain ⟨hx26, _⟩ := nb hx16 he21
 replace hb4 := bb hb4 he21
 clear hS14
 have hSlhS22 := hS22.lt
 refine wc H cb15 (c_spec_DeskAfter _ ((q23)) (by omega)) ?_
 clear H A; rintro v27 w28 he29 ⟨u30, u32, u34, rfl, ho31, ho33, ho35⟩ A H
 obtain ⟨hx37, _⟩ := nx hx26 he29
 replace hb4 := hb4.ext he29
 replace hS22 := hS22.ext he29
 revert A; refine go ?_; intro A H
 refine we H (op_alloc' rfl ti34 rfl) ?_
 clear H A; rintro _ w42 ⟨rfl, he43, hb44, hz45⟩ A H
 obtain ⟨hx47, _⟩ := nx hx37 he43
 replace hb4 := hb4.ext he43
 replace hS22 := hS22.ext he43
 replace ho31 := ho31.ext he43
 replace ho33 := ho33.ext he43
 replace ho35 := ho35.ext he43
 refine ws H (op_storeAll' H rfl ti34 rfl rfl hb44 rfl rfl (o1 ho31.one (o1 ho33.one (o1 ho35.one o0))) rfl) ?_
 rintro w48 ⟨hb50, hst49, hz51⟩
 obtain ⟨hx52, _⟩ := nb hx47 hst49
 replace hb4 := bb hb4 hst49
 replace hS22 := hS22.stp hst49 (by intro q hq; cases hq; omega)
 replace ho31 := ho31.stp hst49 (by intro q hq; cases hq; omega)
 replace ho33 := ho33.stp hst49 (by intro q hq; cases hq; omega)
 replace ho35 := ho35.stp hst49 (by intro q hq; cases hq; omega)
 clear hb44
 refine wv H (op_assign H rfl rfl) ?_
 clear H A; intro A H
 refine wpList_nil ?_
 refine then_n ?_
 refine seq_mid (fun fr wl => ∃ (v1 : Value) (d1 : List (Str × Int × Int × Int × Int)) (v2 : Value) (d2 : List (Str × Int × Int)) (v3 : Value) (d3 : List (Int × Int × Str × Int)), Sl 32 fr [(2, .pointer (some (⟨w0.heap.size, 0, none⟩ : Addr))), (4, .pointer (some (⟨w28.heap.size, 0, none⟩ : Addr)))] ∧ Ext w0 wl ∧ Box wl w0.heap.size 34 [.slice none 0 0, .slice none 0 0, .slice none 0 0] ∧ Own shBin 65 w0.heap.size w0.heap.size wl.heap.size wl v1 d1 ∧ Own shProm 67 w0.heap.size w0.heap.size wl.heap.size wl v2 d2 ∧ Own shEnt 69 w0.heap.size w0.heap.size wl.heap.size wl v3 d3 ∧ Box wl w28.heap.size 34 [v1, v2, v3] ∧ w48.heap.size ≤ wl.heap.size ∧ (d1.length ≤ 100 ∧ d2.length ≤ 100 ∧ d3.length ≤ 100)) ?_ ?_
 obtain ⟨_, _, _, hcd1, hcd2, hcd3⟩ := desk_bd (rcD_ok q23)
 revert A; refine go ?_; intro A H
 refine wl_callS H rfl rfl rfl (op_call H rfl cb37 rfl) (c_spec_l01Next _ g12 w0.heap.size (12 : Int) hS22) ?_
 clear H A; rintro v62 w63 he64 ⟨hS65, ⟨q66, hq67, hq68, hq69, rfl⟩⟩ A H
 obtain ⟨hx71, _⟩ := nb hx52 he64
 replace hb4 := bb hb4 he64
 replace ho31 := ho31.stp he64 (by intro q hq; cases hq; omega)
 replace ho33 := ho33.stp he64 (by intro q hq; cases hq; omega)
 replace ho35 := ho35.stp he64 (by intro q hq; cases hq; omega)
 replace hb50 := bb hb50 he64
 clear hS22
 have hSlhS65 := hS65.lt
 revert A; refine go ?_; intro A H
 by_cases c74 : (q66 : Int) = (0 : Int)
 rw [decide_eq_true c74] at H
 revert A; refine go ?_; intro A H
 refine wl_callS H rfl rfl rfl (op_call H rfl cb50 rfl) (c_spec_l24Draw _ g12 w0.heap.size hS65) ?_
 clear H A; rintro v76 w77 he78 ⟨hS79, ⟨q80, hq81, ho82⟩⟩ A H
 obtain ⟨hx84, _⟩ := nb hx71 he78
 replace hb4 := bb hb4 he78
 replace ho31 := ho31.stp he78 (by intro q hq; cases hq; omega)
 replace ho33 := ho33.stp he78 (by intro q hq; cases hq; omega)
 replace ho35 := ho35.stp he78 (by intro q hq; cases hq; omega)
 replace hb50 := bb hb50 he78
 clear hS65
 have hSlhS79 := hS79.lt
 refine wv H (fa H U34 ti30) ?_
 clear H A; intro A H
 refine ws H (op_store' (off := 0) H rfl ti30 rfl rfl hb50 ho82.cells1 rfl (o1 ho82.one o0) (Nat.le_of_ble_eq_true rfl)) ?_
 rintro w86 ⟨hb88, hst87, hz89⟩
 obtain ⟨hx90, _⟩ := nb hx84 hst87
 replace hb4 := bb hb4 hst87
 replace ho31 := ho31.stp hst87 (by intro q hq; cases hq; omega)
 replace ho33 := ho33.stp hst87 (by intro q hq; cases hq; omega)
 replace ho35 := ho35.stp hst87 (by intro q hq; cases hq; omega)
 replace hS79 := hS79.stp hst87 (by intro q hq; cases hq; omega)
 replace ho82 := ho82.stp hst87 (by intro q hq; cases hq; omega)
 clear hb50
 revert A; refine go ?_; intro A H
 refine ⟨v76, (q80), u32, ((rcD ((q23))).2.1), u34, ((rcD ((q23))).2.2), (sl H), hx90, hb4, (fi ho82), (fi ho33), (fi ho35), hb88, (by omega), (by exact ⟨by omega, by omega, by omega⟩)⟩
 rw [decide_eq_false c74] at H
 revert A; refine go ?_; intro A H
 by_cases c93 : (q66 : Int) = (1 : Int)
 rw [decide_eq_true c93] at H
 revert A; refine go ?_; intro A H
 refine wl_callS H rfl rfl rfl (op_call H rfl cb51 rfl) (c_spec_l23Draw _ g12 w0.heap.size hS65) ?_
 clear H A; rintro v95 w96 he97 ⟨hS98, ⟨q99, hq100, ho101⟩⟩ A H
 obtain ⟨hx103, _⟩ := nb hx71 he97
 replace hb4 := bb hb4 he97
 replace ho31 := ho31.stp he97 (by intro q hq; cases hq; omega)
 replace ho33 := ho33.stp he97 (by intro q hq; cases hq; omega)
 replace ho35 := ho35.stp he97 (by intro q hq; cases hq; omega)
 replace hb50 := bb hb50 he97
 clear hS65
 have hSlhS98 := hS98.lt
 refine wv H (fa H U34 ti31) ?_
 clear H A; intro A H
 refine ws H (op_store' (off := 1) H rfl ti31 rfl rfl hb50 ho101.cells1 rfl (o1 ho101.one o0) (Nat.le_of_ble_eq_true rfl)) ?_
 rintro w105 ⟨hb107, hst106, hz108⟩
 obtain ⟨hx109, _⟩ := nb hx103 hst106
 replace hb4 := bb hb4 hst106
 replace ho31 := ho31.stp hst106 (by intro q hq; cases hq; omega)
 replace ho33 := ho33.stp hst106 (by intro q hq; cases hq; omega)
 replace ho35 := ho35.stp hst106 (by intro q hq; cases hq; omega)
 replace hS98 := hS98.stp hst106 (by intro q hq; cases hq; omega)
 replace ho101 := ho101.stp hst106 (by intro q hq; cases hq; omega)
 clear hb50
 revert A; refine go ?_; intro A H
 refine ⟨u30, ((rcD ((q23))).1), v95, (q99), u34, ((rcD ((q23))).2.2), (sl H), hx109, hb4, (fi ho31), (fi ho101), (fi ho35), hb107, (by omega), (by exact ⟨by omega, by omega, by omega⟩)⟩
 rw [decide_eq_false c93] at H
 revert A; refine go ?_; intro A H
 by_cases c112 : (q66 : Int) = (2 : Int)
 rw [decide_eq_true c112] at H
 revert A; refine go ?_; intro A H
 refine wl_callS H rfl rfl rfl (op_call H rfl cb52 rfl) (c_spec_l33Draw _ g12 w0.heap.size hS65) ?_
 clear H A; rintro v114 w115 he116 ⟨hS117, ⟨q118, hq119, ho120⟩⟩ A H
 obtain ⟨hx122, _⟩ := nb hx71 he116
 replace hb4 := bb hb4 he116
 replace ho31 := ho31.stp he116 (by intro q hq; cases hq; omega)
 replace ho33 := ho33.stp he116 (by intro q hq; cases hq; omega)
 replace ho35 := ho35.stp he116 (by intro q hq; cases hq; omega)
 replace hb50 := bb hb50 he116
 clear hS65
 have hSlhS117 := hS117.lt
 refine wv H (fa H U34 ti32) ?_
 clear H A; intro A H
 refine ws H (op_store' (off := 2) H rfl ti32 rfl rfl hb50 ho120.cells1 rfl (o1 ho120.one o0) (Nat.le_of_ble_eq_true rfl)) ?_
 rintro w124 ⟨hb126, hst125, hz127⟩
 obtain ⟨hx128, _⟩ := nb hx122 hst125
 replace hb4 := bb hb4 hst125
 replace ho31 := ho31.stp hst125 (by intro q hq; cases hq; omega)
 replace ho33 := ho33.stp hst125 (by intro q hq; cases hq; omega)
 replace ho35 := ho35.stp hst125 (by intro q hq; cases hq; omega)
 replace hS117 := hS117.stp hst125 (by intro q hq; cases hq; omega)
 replace ho120 := ho120.stp hst125 (by intro q hq; cases hq; omega)
 clear hb50
 revert A; refine go ?_; intro A H
 refine ⟨u30, ((rcD ((q23))).1), u32, ((rcD ((q23))).2.1), v114, (q118), (sl H), hx128, hb4, (fi ho31), (fi ho33), (fi ho120), hb126, (by omega), (by exact ⟨by omega, by omega, by omega⟩)⟩
 rw [decide_eq_false c112] at H
 revert A; refine go ?_; intro A H
 refine ⟨u30, ((rcD ((q23))).1), u32, ((rcD ((q23))).2.1), u34, ((rcD ((q23))).2.2), (sl H), hx71, hb4, (fi ho31), (fi ho33), (fi ho35), hb50, (by omega), (by exact ⟨by omega, by omega, by omega⟩)⟩
 clear H A
 rintro A w54 ⟨v1, d1, v2, d2, v3, d3, H, hx55, hf56, hf57, hf58, hf59, hf60, hzl130, hdl⟩
 have hzhx55 := hx55.size
 revert A; refine go ?_; intro A H
 refine wv H (ls H U34 ti34 hf60.cells) ?_
 clear H A; intro A H
 refine ws H (op_storeAll' H rfl ti34 rfl rfl hf56 rfl rfl (o1 hf57.one (o1 hf58.one (o1 hf59.one o0))) rfl) ?_
 rintro w132 ⟨hb134, hst133, hz135⟩
 obtain ⟨hx136, _⟩ := nb hx55 hst133
 replace hf57 := ob hf57 flat_shBin hf56 hst133
 replace hf58 := ob hf58 flat_shProm hf56 hst133
 replace hf59 := ob hf59 flat_shEnt hf56 hst133
 replace hf60 := bb hf60 hst133
 clear hf56
 revert A; refine go ?_; intro A H
 refine retc H rfl rfl U34 ti34 rfl hb134.cells ?_
 clear H A
 refine ret_mk hx136 ?_
 refine ⟨((d1, d2, d3) : Dsk), (by exact hdl.1), (by exact hdl.2.1), (by exact hdl.2.2), ?_⟩
 exact ⟨v1, v2, v3, (by rfl), ((fi hf57).cast (by rfl)), ((fi hf58).cast (by rfl)), ((fi hf59).cast (by rfl))⟩




end Go.Proofs.YthbehhhblchhhaaGreat
