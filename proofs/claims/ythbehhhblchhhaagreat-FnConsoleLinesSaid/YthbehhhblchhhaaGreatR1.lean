/- Sources of drawn numbers. -/
import Derived.Test.YthbehhhblchhhaaGreatShapes
import Derived.Test.YthbehhhblchhhaaGreatShort
namespace Go.Proofs.YthbehhhblchhhaaGreat
open Go Go.RowKit
set_option maxHeartbeats 16000000

theorem el_len {xs : List Str} {i : Nat} {x : Str} (n : Nat) (h : (xs.all fun s => decide (s.length ≤ n)) = true) (hx : xs[i]? = some x) : x.length ≤ n := by
  rw [List.all_eq_true] at h
  simpa using h x (List.mem_of_getElem? hx)

theorem els_strs {w : World} {S : Nat → Prop} : ∀ {xs : List Str}, (∀ x ∈ xs, x.length ≤ 9223372036854775807) → Els shStr w S (xs.map St) xs
  | [], _ => rfl
  | x :: xs, h => ⟨mk_shStr x (h x (by simp)), els_strs fun y hy => h y (by simp [hy])⟩
/-- A row of texts, written down. -/
theorem op_lits {P : Program} {a : Act} {o : Oper} {w : World} {N : Nat} {l : List (Nat × Value)} {T e : TypeId} {bytes : Nat} {z : Value} {n : Nat} {parts : Array (Nat × Operand)} (xs : List Str) (ha : Sl N a l) (hT : P.underlying T = some (.slice e)) (hE : TI P e 1 bytes z)
    (ho : o.op = .buildSlice T n parts := by rfl) (hv : parts.toList.map (fun p => (ev l p.2).map fun q => (p.1, q)) = (xs.zipIdx.map fun q => (q.2, St q.1)).map some := by rfl) (hn : n = xs.length := by rfl) (hsm : n * 1 ≤ 16777216 := by decide)
    (hf : Instr.fill (fun i => some (i * 1, 1)) ((Array.range (n * 1)).map fun i => (if n * 1 = 0 then #[] else z.cells)[i % (if n * 1 = 0 then #[] else z.cells).size]!) (xs.zipIdx.map fun q => (q.2, St q.1)) = some (xs.map St).toArray := by kernel_rfl)
    (hl : ∀ x ∈ xs, x.length ≤ 9223372036854775807 := by first | decide | (intro x hx; simp only [List.mem_cons, List.not_mem_nil, or_false] at hx; rcases hx with hx | hx | hx | hx <;> (subst hx; simp only [List.length_append, List.length_cons, List.length_nil]; omega))) :
    Eff P a o w (fun v' w' => Own shStr e w.heap.size w.heap.size w'.heap.size w' v' xs ∧ Ext w w' ∧ v'.ownBlock = some w.heap.size) :=
  op_buildSlice (s := shStr) (S := fun _ => False) ha ho pos_shStr hT hE hv hn hsm hf (els_strs hl) (fun _ h => h.elim)
theorem els_nums {w : World} {S : Nat → Prop} : ∀ {xs : List Int}, (∀ x ∈ xs, I64 x) → Els shI64 w S (xs.map fun n => .int .i64 n) xs
  | [], _ => rfl
  | x :: xs, h => ⟨mk_shI64 x (h x (by simp)), els_nums fun y hy => h y (by simp [hy])⟩
/-- A row of numbers, written down. -/
theorem op_nums {P : Program} {a : Act} {o : Oper} {w : World} {N : Nat} {l : List (Nat × Value)} {T e : TypeId} {bytes : Nat} {z : Value} {n : Nat} {parts : Array (Nat × Operand)} (xs : List Int) (ha : Sl N a l) (hT : P.underlying T = some (.slice e)) (hE : TI P e 1 bytes z)
    (ho : o.op = .buildSlice T n parts := by rfl) (hv : parts.toList.map (fun p => (ev l p.2).map fun q => (p.1, q)) = (xs.zipIdx.map fun q => (q.2, (.int .i64 q.1 : Value))).map some := by rfl) (hn : n = xs.length := by rfl) (hsm : n * 1 ≤ 16777216 := by decide)
    (hf : Instr.fill (fun i => some (i * 1, 1)) ((Array.range (n * 1)).map fun i => (if n * 1 = 0 then #[] else z.cells)[i % (if n * 1 = 0 then #[] else z.cells).size]!) (xs.zipIdx.map fun q => (q.2, (.int .i64 q.1 : Value))) = some (xs.map fun n => (.int .i64 n : Value)).toArray := by kernel_rfl)
    (hl : ∀ x ∈ xs, I64 x := by first | decide | (intro x hx; simp only [List.mem_cons, List.not_mem_nil, or_false] at hx; omega)) :
    Eff P a o w (fun v' w' => Own shI64 e w.heap.size w.heap.size w'.heap.size w' v' xs ∧ Ext w w' ∧ v'.ownBlock = some w.heap.size) :=
  op_buildSlice (s := shI64) (S := fun _ => False) ha ho pos_shI64 hT hE hv hn hsm hf (els_nums hl) (fun _ h => h.elim)

theorem c_spec_l01From (w0 : World) (v_code : Value) (code : List UInt8) {b_code : Nat} (h_code : Rds shU8 (Iv 0 b_code) w0 v_code code) (l_code : b_code ≤ w0.heap.size) :
    Calls Tryz.prog 31 #[v_code] w0 (Ret w0 (fun v w1 => ∃ g, v = .pointer (some (⟨g, 0, none⟩ : Addr)) ∧ w0.heap.size ≤ g ∧ Src w1 g b_code 75)) := by
 refine enter (N := 34) Tryz.func31 rfl rfl rfl ?_
 intro A H
 have hx0 := Ext.rfl' w0
 have hl_code := h_code.length_le
 revert A; refine go ?_; intro A H
 refine wv H (op_build (vs := [(0, v_code), (2, .int .i64 (61043 : Int))]) (cs := #[v_code, .int .i64 (0 : Int), .int .i64 (61043 : Int)]) H rfl U75 ti75 bp75 rfl ((fill_one h_code.cells1 rfl rfl).trans ((fill_one rfl rfl rfl).trans rfl))) ?_
 clear H A; intro A H
 refine we H (op_box' H rfl rfl rfl) ?_
 clear H A; rintro _ w5 ⟨rfl, he6, hb7, hz8⟩ A H
 obtain ⟨hx10, _⟩ := nx hx0 he6
 revert A; refine go ?_; intro A H
 refine loop_inv (X := Nat × Int) (fun ⟨i, q⟩ fr wl => Sl 34 fr [(0, v_code), (3, .pointer (some (⟨w0.heap.size, 0, none⟩ : Addr))), (4, .int .i64 ((i : Nat) : Int))] ∧ Ext w0 wl ∧ Box wl w0.heap.size 75 [v_code, .int .i64 (0 : Int), .int .i64 q] ∧ w5.heap.size ≤ wl.heap.size ∧ (i ≤ code.length) ∧ (0 ≤ q) ∧ (q < 2147483647)) (fun ⟨i, q⟩ => code.length - i) (0, (61043 : Int)) ?_ ?_
 exact ⟨(sl H), hx10, hb7, (by omega), (by omega), (by omega), (by omega)⟩
 clear H A
 rintro ⟨i, q⟩ A w13 ⟨H, hx14, hf15, hzl17, hi, hq0, hq1⟩
 have hzhx14 := hx14.size
 revert A; refine go ?_; intro A H
 refine wv H (ln H U22 h_code) ?_
 clear H A; refine go ?_; intro A H
 by_cases c23 : ((i : Nat) : Int) < ((code.length : Nat) : Int)
 rw [decide_eq_true c23] at H
 revert A; refine go ?_; intro A H
 by_cases c27 : ((i : Nat) : Int) < (64 : Int)
 rw [decide_eq_true c27] at H
 revert A; refine go ?_; intro A H
 refine dre (fun wa_ wb_ => Stp wa_ wb_ (some w0.heap.size)) follows_mixed ?_
 intro w28 he29 hs31
 obtain ⟨hx30, _⟩ := nx hx14 he29
 replace hf15 := hf15.ext he29
 revert A; refine dgo [0, 1] (Stp.of_ext hs31 _) ?_; intro A H
 refine dw 2 H rfl (Stp.of_ext hs31 _) (op_nilCheck H rfl rfl) ?_
 clear H A; intro A H
 refine dw 3 H rfl (Stp.of_ext hs31 _) (fa H U75 ti2) ?_
 clear H A; refine dgo [6, 7] (Stp.of_ext hs31 _) ?_; intro A H
 obtain ⟨x38, hx38⟩ := get_ex (xs := code) (j := i) (by omega)
 obtain ⟨p39, c40, hi41, hc42, hr43, hs44⟩ := Rds.at_ h_code hx38
 obtain rfl := inv_shU8 hr43
 have hltx38 := x38.toNat_lt
 refine dw 8 H rfl (Stp.of_ext hs31 _) (ix H U22 ti5 hi41) ?_
 clear H A; intro A H
 refine dv 9 H rfl (Stp.of_ext hs31 _) (fun w' hw' => lh H U5 (hc42.ext (hx30.stp hw' (by intro q hq; cases hq; omega)))) ?_
 clear H A; intro A H
 refine dv 10 H rfl (Stp.of_ext hs31 _) (fun w' hw' => (op_conv_int H rfl U5 U2 rfl).int (IntWalk.i64_in _ (by omega))) ?_
 clear H A; intro A H
 refine dr_one (i := 4) (by kernel_rfl) ?_
 refine po_to H rfl rfl rfl rfl (lf 2 H U2 (hf15.ext hs31).cells) ?_
 clear H A; intro A H
 refine ⟨(Stp.of_ext hs31 _), ?_⟩
 refine dw 5 H rfl (Stp.of_ext hs31 _) ((op_mul H rfl rfl rfl).int (IntWalk.i64_in _ (by omega))) ?_
 clear H A; intro A H
 refine dw 11 H rfl (Stp.of_ext hs31 _) ((op_add H rfl rfl rfl).int (IntWalk.i64_in _ (by omega))) ?_
 clear H A; intro A H
 refine dv 12 H rfl (Stp.of_ext hs31 _) (fun w' hw' => (op_rem H rfl rfl rfl (by omega)).int (Int.tmod_eq_emod_of_nonneg (by omega))) ?_
 clear H A; intro A H
 refine dw 13 H rfl (Stp.of_ext hs31 _) (op_nilCheck H rfl rfl) ?_
 clear H A; intro A H
 refine dw 14 H rfl (Stp.of_ext hs31 _) (fa H U75 ti2) ?_
 clear H A; intro A H
 refine dr_one (i := 15) (by kernel_rfl) ?_
 replace hf15 := hf15.ext hs31
 refine po_effS H rfl rfl rfl (op_store' (off := 2) H rfl ti2 rfl rfl hf15 rfl rfl (by simp [Value.oneCell']) (Nat.le_of_ble_eq_true rfl)) ?_
 rintro w60 ⟨hb62, hst61, hz63⟩
 obtain ⟨hx64, _⟩ := nb hx30 hst61
 clear hf15
 have hs59 := (Stp.of_ext hs31 (some w0.heap.size)).trans' hst61
 refine ⟨hs59, ?_⟩
 refine dr_end (by kernel_rfl) ?_
 revert A; refine go ?_; intro A H
 refine wv H ((op_add H rfl rfl rfl).int (IntWalk.i64_in _ (by omega))) ?_
 clear H A; refine go ?_; intro A H
 refine ⟨((i + 1), (((q * (83 : Int)) + (x38.toNat : Int)) % (2147483647 : Int))), ?_, ?_⟩
 refine ⟨(sl H), hx64, hb62, (by omega), (by omega), (by omega), (by omega)⟩
 show (code.length - ((i + 1)) : Nat) < code.length - i; omega
 rw [decide_eq_false c27] at H
 revert A; refine go ?_; intro A H
 refine ret1 H rfl rfl ?_
 clear H A
 exact ret_mk hx14 ⟨w0.heap.size, rfl, by omega, ⟨by omega, _, _, 0, q, hf15, (h_code.ext pos_shU8 hx14), by omega, by omega, by omega⟩⟩
 rw [decide_eq_false c23] at H
 revert A; refine go ?_; intro A H
 refine ret1 H rfl rfl ?_
 clear H A
 exact ret_mk hx14 ⟨w0.heap.size, rfl, by omega, ⟨by omega, _, _, 0, q, hf15, (h_code.ext pos_shU8 hx14), by omega, by omega, by omega⟩⟩



theorem c_spec_l01Next (w0 : World) (g_s b_s : Nat) (n : Int) (h_s : Src w0 g_s b_s 75) :
    Calls Tryz.prog 37 #[.pointer (some (⟨g_s, 0, none⟩ : Addr)), .int .i64 n] w0 (RetS w0 (some g_s) (fun v w1 => Src w1 g_s b_s 75 ∧ (fun v w1 => ∃ (r : Int), (0 ≤ r) ∧ (n ≤ 1 → r = 0) ∧ (1 < n → r < n) ∧ (fun v _ => v = .int .i64 (r)) v w1) v w1)) := by
 refine enter (N := 78) Tryz.func37 rfl rfl rfl ?_
 intro A H
 have hx0 := Stp.rfl' w0 (some g_s)
 have hgl_s := h_s.lt
 obtain ⟨_, v_s, code_s, at_s, seed_s, hB_s, hr_s, hat_s, hs0_s, hs1_s⟩ := h_s
 have hcl_s := hr_s.length_le
 revert A; refine go ?_; intro A H
 by_cases c4 : n ≤ (1 : Int)
 rw [decide_eq_true c4] at H
 revert A; refine go ?_; intro A H
 refine ret1 H rfl rfl ?_
 clear H A
 have hSr : Src w0 g_s b_s 75 := ⟨by omega, _, _, at_s, seed_s, hB_s, hr_s, by omega, by omega, by omega⟩
 refine ret_mkS hx0 ⟨hSr, ?_⟩
 refine ⟨(0 : Int), (by omega), (by omega), (by omega), ?_⟩
 exact (int_eq (by rfl))
 rw [decide_eq_false c4] at H
 revert A; refine go ?_; intro A H
 refine wv H (op_nilCheck H rfl rfl) ?_
 clear H A; intro A H
 refine fl 2 H U75 ti2 U2 hB_s.cells ?_
 clear H A; intro A H
 refine wv H ((op_mul H rfl rfl rfl).int (IntWalk.i64_in _ (by omega))) ?_
 clear H A; intro A H
 refine wv H ((op_add H rfl rfl rfl).int (IntWalk.i64_in _ (by omega))) ?_
 clear H A; intro A H
 refine wv H ((op_rem H rfl rfl rfl (by omega)).int (Int.tmod_eq_emod_of_nonneg (by omega))) ?_
 clear H A; intro A H
 refine wv H (op_nilCheck H rfl rfl) ?_
 clear H A; intro A H
 refine wv H (fa H U75 ti2) ?_
 clear H A; intro A H
 refine ws H (op_store' (off := 2) H rfl ti2 rfl rfl hB_s rfl rfl (by simp [Value.oneCell']) (Nat.le_of_ble_eq_true rfl)) ?_
 rintro w16 ⟨hb18, hst17, hz19⟩
 have hx20 := hx0.trans' hst17
 have hzhx20 := hst17.size
 replace hr_s := hr_s.stp pos_shU8 hst17 (by intro q hq; cases hq; exact not_iv (by omega))
 clear hB_s
 revert A; refine go ?_; intro A H
 refine wv H (op_nilCheck H rfl rfl) ?_
 clear H A; intro A H
 refine fl 2 H U75 ti2 U2 hb18.cells ?_
 clear H A; intro A H
 refine wv H ((op_quo H rfl rfl rfl (by omega)).int (IntWalk.i64_quo _ _ (by omega))) ?_
 clear H A; refine go ?_; intro A H
 refine dre Ext follows_mixed ?_
 intro w27 he28 hs30
 obtain ⟨hx29, _⟩ := nxe hx20 he28
 replace hr_s := hr_s.ext pos_shU8 he28
 replace hb18 := hb18.ext he28
 refine dw 0 H rfl hs30 (op_move H rfl rfl) ?_
 clear H A; intro A H
 refine dw 1 H rfl hs30 (op_nilCheck H rfl rfl) ?_
 clear H A; intro A H
 refine dw 2 H rfl hs30 (fa H U75 ti3) ?_
 clear H A; intro A H
 refine dv 3 H rfl hs30 (fun w' hw' => lf 1 H U3 (hb18.ext hw').cells) ?_
 clear H A; intro A H
 refine dw 4 H rfl hs30 (op_move H rfl rfl) ?_
 clear H A; intro A H
 refine dw 5 H rfl hs30 (op_nilCheck H rfl rfl) ?_
 clear H A; intro A H
 refine dw 6 H rfl hs30 (fa H U75 ti22) ?_
 clear H A; intro A H
 refine dv 7 H rfl hs30 (fun w' hw' => lf 0 H U22 (hb18.ext hw').cells) ?_
 clear H A; intro A H
 refine dw 8 H rfl hs30 (ln H U22 hr_s) ?_
 clear H A; intro A H
 refine dw 9 H rfl hs30 (op_lss H rfl rfl rfl) ?_
 clear H A; intro A H
 refine dr_end (by kernel_rfl) ?_
 replace hr_s := hr_s.ext pos_shU8 hs30
 replace hb18 := hb18.ext hs30
 refine then_n ?_
 by_cases c41 : ((at_s : Nat) : Int) < ((code_s.length : Nat) : Int)
 rw [decide_eq_true c41] at H
 revert A; refine go ?_; intro A H
 refine dre Ext follows_mixed ?_
 intro w42 he43 hs45
 obtain ⟨hx44, _⟩ := nxe hx29 he43
 replace hr_s := hr_s.ext pos_shU8 he43
 replace hb18 := hb18.ext he43
 revert A; refine dgo [0, 1] hs45 ?_; intro A H
 refine dw 2 H rfl hs45 (op_nilCheck H rfl rfl) ?_
 clear H A; intro A H
 refine dw 3 H rfl hs45 (fa H U75 ti22) ?_
 clear H A; intro A H
 refine dv 4 H rfl hs45 (fun w' hw' => lf 0 H U22 (hb18.ext hw').cells) ?_
 clear H A; intro A H
 refine dw 5 H rfl hs45 (op_move H rfl rfl) ?_
 clear H A; intro A H
 refine dw 6 H rfl hs45 (op_nilCheck H rfl rfl) ?_
 clear H A; intro A H
 refine dw 7 H rfl hs45 (fa H U75 ti3) ?_
 clear H A; intro A H
 refine dv 8 H rfl hs45 (fun w' hw' => lf 1 H U3 (hb18.ext hw').cells) ?_
 clear H A; intro A H
 obtain ⟨x55, hx55⟩ := get_ex (xs := code_s) (j := at_s) (by omega)
 obtain ⟨p56, c57, hi58, hc59, hr60, hs61⟩ := Rds.at_ hr_s hx55
 obtain rfl := inv_shU8 hr60
 obtain ⟨_, _⟩ : _ ∧ _ := hs61
 have hltx55 := x55.toNat_lt
 refine dw 9 H rfl hs45 (ix H U22 ti5 hi58) ?_
 clear H A; intro A H
 refine dv 10 H rfl hs45 (fun w' hw' => lh H U5 (hc59.ext hw')) ?_
 clear H A; intro A H
 refine dv 11 H rfl hs45 (fun w' hw' => (op_conv_int H rfl U5 U2 rfl).int (IntWalk.i64_in _ (by omega))) ?_
 clear H A; intro A H
 refine dw 12 H rfl hs45 ((op_add H rfl rfl rfl).int (IntWalk.i64_in _ (by omega))) ?_
 clear H A; intro A H
 refine dw 13 H rfl hs45 (op_assign H rfl rfl) ?_
 clear H A; intro A H
 refine dr_end (by kernel_rfl) ?_
 replace hr_s := hr_s.ext pos_shU8 hs45
 replace hb18 := hb18.ext hs45
 replace hc59 := hc59.ext hs45
 revert A; refine go ?_; intro A H
 refine wv H (op_nilCheck H rfl rfl) ?_
 clear H A; intro A H
 refine fl 1 H U75 ti3 U3 hb18.cells ?_
 clear H A; intro A H
 refine wv H ((op_add H rfl rfl rfl).int (IntWalk.i64_in _ (by omega))) ?_
 clear H A; intro A H
 refine wv H (op_nilCheck H rfl rfl) ?_
 clear H A; intro A H
 refine wv H (fa H U75 ti3) ?_
 clear H A; intro A H
 refine ws H (op_store' (off := 1) H rfl ti3 rfl rfl hb18 rfl rfl (by simp [Value.oneCell']) (Nat.le_of_ble_eq_true rfl)) ?_
 rintro w75 ⟨hb77, hst76, hz78⟩
 have hx79 := hx44.trans' hst76
 have hzhx79 := hst76.size
 replace hr_s := hr_s.stp pos_shU8 hst76 (by intro q hq; cases hq; exact not_iv (by omega))
 replace hc59 := hc59.stp hst76 (by intro q hq; cases hq; omega)
 clear hb18
 revert A; refine go ?_; intro A H
 by_cases c83 : n ≤ (256 : Int)
 rw [decide_eq_true c83] at H
 refine wv H (op_move H rfl rfl) ?_
 clear H A; intro A H
 refine wv H (op_nilCheck H rfl rfl) ?_
 clear H A; intro A H
 refine fl 1 H U75 ti3 U3 hb77.cells ?_
 clear H A; intro A H
 refine wv H ((op_rem H rfl rfl rfl (by omega)).int (Int.tmod_eq_emod_of_nonneg (by omega))) ?_
 clear H A; refine go ?_; intro A H
 by_cases c91 : ((((at_s : Nat) : Int) + (1 : Int)) % (2 : Int)) = (0 : Int)
 rw [decide_eq_true c91] at H
 refine cond_t H rfl ?_
 refine dre Ext follows_mixed ?_
 intro w92 he93 hs95
 obtain ⟨hx94, _⟩ := nxe hx79 he93
 replace hr_s := hr_s.ext pos_shU8 he93
 replace hc59 := hc59.ext he93
 replace hb77 := hb77.ext he93
 refine dw 0 H rfl hs95 (op_move H rfl rfl) ?_
 clear H A; intro A H
 refine dw 1 H rfl hs95 (op_nilCheck H rfl rfl) ?_
 clear H A; intro A H
 refine dw 2 H rfl hs95 (fa H U75 ti22) ?_
 clear H A; intro A H
 refine dv 3 H rfl hs95 (fun w' hw' => lf 0 H U22 (hb77.ext hw').cells) ?_
 clear H A; intro A H
 refine dw 4 H rfl hs95 (op_move H rfl rfl) ?_
 clear H A; intro A H
 refine dw 5 H rfl hs95 (op_nilCheck H rfl rfl) ?_
 clear H A; intro A H
 refine dw 6 H rfl hs95 (fa H U75 ti3) ?_
 clear H A; intro A H
 refine dv 7 H rfl hs95 (fun w' hw' => lf 1 H U3 (hb77.ext hw').cells) ?_
 clear H A; intro A H
 refine dw 8 H rfl hs95 ((op_sub H rfl rfl rfl).int (IntWalk.i64_in _ (by omega))) ?_
 clear H A; intro A H
 obtain ⟨x105, hx105⟩ := get_ex (xs := code_s) (j := ((at_s + 1) - 1)) (by omega)
 obtain ⟨p106, c107, hi108, hc109, hr110, hs111⟩ := Rds.at_ hr_s hx105
 obtain rfl := inv_shU8 hr110
 obtain ⟨_, _⟩ : _ ∧ _ := hs111
 have hltx105 := x105.toNat_lt
 refine dw 9 H rfl hs95 (ix H U22 ti5 hi108) ?_
 clear H A; intro A H
 refine dv 10 H rfl hs95 (fun w' hw' => lh H U5 (hc109.ext hw')) ?_
 clear H A; intro A H
 refine dv 11 H rfl hs95 (fun w' hw' => (op_conv_int H rfl U5 U2 rfl).int (IntWalk.i64_in _ (by omega))) ?_
 clear H A; intro A H
 refine dw 12 H rfl hs95 (op_assign H rfl rfl) ?_
 clear H A; intro A H
 refine dr_end (by kernel_rfl) ?_
 replace hr_s := hr_s.ext pos_shU8 hs95
 replace hc59 := hc59.ext hs95
 replace hb77 := hb77.ext hs95
 replace hc109 := hc109.ext hs95
 revert A; refine go ?_; intro A H
 refine wv H ((op_rem H rfl rfl rfl (by omega)).int (Int.tmod_eq_emod_of_nonneg (by omega))) ?_
 clear H A; refine go ?_; intro A H
 refine ret1 H rfl rfl ?_
 clear H A
 have hSr : Src w92 g_s b_s 75 := ⟨by omega, _, _, (at_s + 1), (((seed_s * (48271 : Int)) + (29 : Int)) % (2147483647 : Int)), hb77, hr_s, by omega, by omega, by omega⟩
 refine ret_mkS hx94 ⟨hSr, ?_⟩
 refine ⟨((x105.toNat : Int) % n), (by exact Int.emod_nonneg _ (by omega)), (by omega), (by intro _; exact Int.emod_lt_of_pos _ (by omega)), ?_⟩
 exact (int_eq (by rfl))
 rw [decide_eq_false c91] at H
 revert A; refine go ?_; intro A H
 refine wv H ((op_rem H rfl rfl rfl (by omega)).int (Int.tmod_eq_emod_of_nonneg (by omega))) ?_
 clear H A; refine go ?_; intro A H
 refine ret1 H rfl rfl ?_
 clear H A
 have hSr : Src w75 g_s b_s 75 := ⟨by omega, _, _, (at_s + 1), (((seed_s * (48271 : Int)) + (29 : Int)) % (2147483647 : Int)), hb77, hr_s, by omega, by omega, by omega⟩
 refine ret_mkS hx79 ⟨hSr, ?_⟩
 refine ⟨((((((seed_s * (48271 : Int)) + (29 : Int)) % (2147483647 : Int)) / (31 : Int)) + (x55.toNat : Int)) % n), (by exact Int.emod_nonneg _ (by omega)), (by omega), (by intro _; exact Int.emod_lt_of_pos _ (by omega)), ?_⟩
 exact (int_eq (by rfl))
 rw [decide_eq_false c83] at H
 revert A; refine go ?_; intro A H
 refine wv H ((op_rem H rfl rfl rfl (by omega)).int (Int.tmod_eq_emod_of_nonneg (by omega))) ?_
 clear H A; refine go ?_; intro A H
 refine ret1 H rfl rfl ?_
 clear H A
 have hSr : Src w75 g_s b_s 75 := ⟨by omega, _, _, (at_s + 1), (((seed_s * (48271 : Int)) + (29 : Int)) % (2147483647 : Int)), hb77, hr_s, by omega, by omega, by omega⟩
 refine ret_mkS hx79 ⟨hSr, ?_⟩
 refine ⟨((((((seed_s * (48271 : Int)) + (29 : Int)) % (2147483647 : Int)) / (31 : Int)) + (x55.toNat : Int)) % n), (by exact Int.emod_nonneg _ (by omega)), (by omega), (by intro _; exact Int.emod_lt_of_pos _ (by omega)), ?_⟩
 exact (int_eq (by rfl))
 rw [decide_eq_false c41] at H
 revert A; refine go ?_; intro A H
 refine wv H ((op_rem H rfl rfl rfl (by omega)).int (Int.tmod_eq_emod_of_nonneg (by omega))) ?_
 clear H A; refine go ?_; intro A H
 refine ret1 H rfl rfl ?_
 clear H A
 have hSr : Src w27 g_s b_s 75 := ⟨by omega, _, _, at_s, (((seed_s * (48271 : Int)) + (29 : Int)) % (2147483647 : Int)), hb18, hr_s, by omega, by omega, by omega⟩
 refine ret_mkS hx29 ⟨hSr, ?_⟩
 refine ⟨(((((seed_s * (48271 : Int)) + (29 : Int)) % (2147483647 : Int)) / (31 : Int)) % n), (by exact Int.emod_nonneg _ (by omega)), (by omega), (by intro _; exact Int.emod_lt_of_pos _ (by omega)), ?_⟩
 exact (int_eq (by rfl))



theorem c_spec_l01Pick (w0 : World) (g_s b_s : Nat) (v_list : Value) (list : List Int) {S_list : Nat → Prop} (h_s : Src w0 g_s b_s 75) (h_list : Rds shI64 S_list w0 v_list list) (d_list : ¬ S_list g_s) (g0 : 1 ≤ list.length) :
    Calls Tryz.prog 76 #[.pointer (some (⟨g_s, 0, none⟩ : Addr)), v_list] w0 (RetS w0 (some g_s) (fun v w1 => Src w1 g_s b_s 75 ∧ (fun v w1 => ∃ (r : Int), (r ∈ list) ∧ (fun v _ => v = .int .i64 (r)) v w1) v w1)) := by
 refine enter (N := 12) Tryz.func76 rfl rfl rfl ?_
 intro A H
 have hx0 := Stp.rfl' w0 (some g_s)
 have hl_list := h_list.length_le
 have hgl_s := h_s.lt
 revert A; refine go ?_; intro A H
 refine wv H (ln H U55 h_list) ?_
 clear H A; intro A H
 refine wl_callS H rfl rfl rfl (op_call H rfl cb37 rfl) (c_spec_l01Next _ g_s b_s ((list.length : Nat) : Int) h_s) ?_
 clear H A; rintro v6 w7 he8 ⟨hS9, ⟨q10, hq11, hq12, hq13, rfl⟩⟩ A H
 obtain ⟨hx15, _⟩ := nxs hx0 he8
 have hSlhS9 := hS9.lt
 obtain ⟨x16, hx16⟩ := get_ex (xs := list) (j := ((q10 : Int)).toNat) (by omega)
 obtain ⟨p17, hi19, hc20, b23, hs22⟩ := at_shI64 h_list hx16
 refine wv H (ix H U55 ti2 hi19) ?_
 clear H A; intro A H
 refine wv H (lh H U2 (hc20.stp hx15 (by intro q hq; cases hq; intro e; rw [e] at hs22; exact d_list hs22))) ?_
 clear H A; refine go ?_; intro A H
 refine ret1 H rfl rfl ?_
 clear H A
 refine ret_mkS hx15 ⟨hS9, ?_⟩
 refine ⟨x16, (by exact List.mem_of_getElem? hx16), ?_⟩
 exact (int_eq (by rfl))




end Go.Proofs.YthbehhhblchhhaaGreat
