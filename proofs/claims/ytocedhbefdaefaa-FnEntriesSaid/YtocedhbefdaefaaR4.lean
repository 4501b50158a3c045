/- Day books and days, names drawn. -/
import Derived.Test.YtocedhbefdaefaaR3
namespace Go.Proofs.Ytocedhbefdaefaa
open Go Go.RowKit

set_option maxHeartbeats 8000000 in
theorem c_spec_DrawCashOf (w0 : World) (v_code : Value) (code : List UInt8) {S_code : Nat → Prop} (h_code : Rds shU8 S_code w0 v_code code) :
  Calls Try.prog 49 #[v_code] w0 (Ret w0 (fun v w1 => ∃ (l : List Ent) (d : Int), (l.length ≤ 61) ∧ (I64 d) ∧ (fun v w1 => ∃ r0, v = .tuple #[r0, .int .i64 (d)] ∧ Own shEnt 41 w0.heap.size w0.heap.size w1.heap.size w1 r0 (l)) v w1)) := by
 refine enter (N := 18) Try.func49 rfl rfl rfl ?_
 intro a0 ha0
 have hx0 := Ext.rfl' w0
 have hl_code := h_code.length_le
 refine wp_seq ?_
 refine wp_region_lit ?_
 refine wl_val ha0 rfl rfl rfl (op_assign ha0 rfl rfl) ?_
 intro a1 ha1; clear ha0 a0
 refine wl_val ha1 rfl rfl rfl (op_assign ha1 rfl rfl) ?_
 intro a2 ha2; clear ha1 a1
 refine wpList_nil ?_
 refine then_n ?_
 refine wp_seq ?_
 refine wp_region_lit ?_
 refine wl_val ha2 rfl rfl rfl (op_move ha2 rfl rfl) ?_
 intro a3 ha3; clear ha2 a2
 refine wl_callR ha3 rfl rfl rfl (op_call ha3 rfl cb70 rfl) (c_spec_l01From _ v_code code (h_code.low pos_shU8 hx0 (Nat.le_refl _)) (by omega)) ?_
 rintro v4 w5 he6 ⟨g7, rfl, hg8, hS9⟩ a10 ha10; clear ha3 a3
 have hx11 := hx0.trans' he6
 have hzhx11 := he6.size
 have hSlhS9 := hS9.lt
 refine wl_val ha10 rfl rfl rfl (op_assign ha10 rfl rfl) ?_
 intro a12 ha12; clear ha10 a10
 refine wpList_nil ?_
 refine then_n ?_
 refine wp_seq ?_
 refine wp_region_lit ?_
 refine wl_val ha12 rfl rfl rfl (op_move ha12 rfl rfl) ?_
 intro a13 ha13; clear ha12 a12
 refine wl_callS ha13 rfl rfl rfl (op_call ha13 rfl cb71 rfl) (c_spec_l33Draw _ g7 w0.heap.size hS9) ?_
 rintro v14 w15 he16 ⟨hS17, ⟨q18, hq19, ho20⟩⟩ a21 ha21; clear ha13 a13
 have hx22 := hx11.stp he16 (by intro q hq; cases hq; exact (by omega))
 have hzhx22 := he16.size
 clear hS9
 have hSlhS17 := hS17.lt
 refine wl_val ha21 rfl rfl rfl (op_assign ha21 rfl rfl) ?_
 intro a23 ha23; clear ha21 a21
 refine wpList_nil ?_
 refine then_n ?_
 refine wp_seq ?_
 refine wp_region_lit ?_
 refine wl_val ha23 rfl rfl rfl (op_move ha23 rfl rfl) ?_
 intro a24 ha24; clear ha23 a23
 refine wl_val ha24 rfl rfl rfl (op_move ha24 rfl rfl) ?_
 intro a25 ha25; clear ha24 a24
 refine wl_val ha25 rfl rfl rfl (op_move ha25 rfl rfl) ?_
 intro a26 ha26; clear ha25 a25
 refine wl_callS ha26 rfl rfl rfl (op_call ha26 rfl cb73 rfl) (c_spec_l01Next _ g7 w0.heap.size (40 : Int) hS17) ?_
 rintro v27 w28 he29 ⟨hS30, ⟨q31, hq32, hq33, hq34, rfl⟩⟩ a35 ha35; clear ha26 a26
 have hx36 := hx22.stp he29 (by intro q hq; cases hq; exact (by omega))
 have hzhx36 := he29.size
 first | replace ho20 := ho20.stp he29 (by intro q hq; cases hq; omega) | replace ho20 := ho20.stpF flat_shEnt he29 (by intro q hq; cases hq; exact ho20.ne_box (by assumption) rfl)
 clear hS17
 have hSlhS30 := hS30.lt
 refine wl_val ha35 rfl rfl rfl (op_move ha35 rfl rfl) ?_
 intro a37 ha37; clear ha35 a35
 refine wl_callS ha37 rfl rfl rfl (op_call ha37 rfl cb73 rfl) (c_spec_l01Next _ g7 w0.heap.size (40 : Int) hS30) ?_
 rintro v38 w39 he40 ⟨hS41, ⟨q42, hq43, hq44, hq45, rfl⟩⟩ a46 ha46; clear ha37 a37
 have hx47 := hx36.stp he40 (by intro q hq; cases hq; exact (by omega))
 have hzhx47 := he40.size
 first | replace ho20 := ho20.stp he40 (by intro q hq; cases hq; omega) | replace ho20 := ho20.stpF flat_shEnt he40 (by intro q hq; cases hq; exact ho20.ne_box (by assumption) rfl)
 clear hS30
 have hSlhS41 := hS41.lt
 refine wl_eff ha46 rfl rfl rfl (op_buildSlice (s := shI64) (xs := [(q31 : Int), (q42 : Int), (0 : Int), (100000 : Int), (100001 : Int), (-1 : Int)]) (cs := [.int .i64 (q31 : Int), .int .i64 (q42 : Int), .int .i64 (0 : Int), .int .i64 (100000 : Int), .int .i64 (100001 : Int), .int .i64 (-1 : Int)]) (vs := [(0, .int .i64 (q31 : Int)), (1, .int .i64 (q42 : Int)), (2, .int .i64 (0 : Int)), (3, .int .i64 (100000 : Int)), (4, .int .i64 (100001 : Int)), (5, .int .i64 (-1 : Int))]) (S := fun _ => False) (le := w39.heap.size) ha46 rfl pos_shI64 Try.underlying45 ti2 rfl rfl (by decide) (by kernel_rfl) ⟨mk_shI64 ((q31 : Int)) (by first | assumption | omega | (constructor <;> omega) | (dsimp only; omega) | (simp; done) | (simp; omega)), mk_shI64 ((q42 : Int)) (by first | assumption | omega | (constructor <;> omega) | (dsimp only; omega) | (simp; done) | (simp; omega)), mk_shI64 ((0 : Int)) (by first | assumption | omega | (constructor <;> omega) | (dsimp only; omega) | (simp; done) | (simp; omega)), mk_shI64 ((100000 : Int)) (by first | assumption | omega | (constructor <;> omega) | (dsimp only; omega) | (simp; done) | (simp; omega)), mk_shI64 ((100001 : Int)) (by first | assumption | omega | (constructor <;> omega) | (dsimp only; omega) | (simp; done) | (simp; omega)), mk_shI64 ((-1 : Int)) (by first | assumption | omega | (constructor <;> omega) | (dsimp only; omega) | (simp; done) | (simp; omega)), rfl⟩ (fun _ h => h.elim)) ?_
 rintro v48 w49 ⟨ho50, he51, hob52⟩ a53 ha53; clear ha46 a46
 have hx54 := hx47.trans' he51
 have hzhx54 := he51.size
 replace ho20 := ho20.ext he51
 replace hS41 := hS41.ext he51
 refine wl_callS ha53 rfl rfl rfl (op_call ha53 rfl cb72 rfl) (c_spec_l01Pick _ g7 w0.heap.size v48 ([(q31 : Int), (q42 : Int), (0 : Int), (100000 : Int), (100001 : Int), (-1 : Int)]) hS41 (ho50.rds pos_shI64) (by rintro ⟨_, _⟩; omega) (by first | assumption | omega | (constructor <;> omega) | (dsimp only; omega) | (simp; done) | (simp; omega))) ?_
 rintro v55 w56 he57 ⟨hS58, ⟨q59, hq60, rfl⟩⟩ a61 ha61; clear ha53 a53
 have hx62 := hx54.stp he57 (by intro q hq; cases hq; exact (by omega))
 have hzhx62 := he57.size
 first | replace ho20 := ho20.stp he57 (by intro q hq; cases hq; omega) | replace ho20 := ho20.stpF flat_shEnt he57 (by intro q hq; cases hq; exact ho20.ne_box (by assumption) rfl)
 first | replace ho50 := ho50.stp he57 (by intro q hq; cases hq; omega) | replace ho50 := ho50.stpF flat_shI64 he57 (by intro q hq; cases hq; exact ho50.ne_box (by assumption) rfl)
 clear hS41
 have hSlhS58 := hS58.lt
 simp only [List.mem_cons, List.not_mem_nil, or_false] at hq60
 refine wl_val ha61 rfl rfl rfl (op_assign ha61 rfl rfl) ?_
 intro a63 ha63; clear ha61 a61
 refine wl_val ha63 rfl rfl rfl (op_assign ha63 rfl rfl) ?_
 intro a64 ha64; clear ha63 a63
 refine wpList_nil ?_
 refine then_n ?_
 refine wp_ret ?_
 refine ret2 ha64 rfl rfl rfl ?_
 clear ha64 a64
 refine ret_mk hx62 ?_
 refine ⟨(((q18)) : List Ent), (q59 : Int), (by first | assumption | omega | (constructor <;> omega) | (dsimp only; omega) | (simp; done) | (simp; omega)), (by first | assumption | omega | (constructor <;> omega) | (dsimp only; omega) | (simp; done) | (simp; omega)), ?_⟩
 refine ⟨v14, (tup2_eq rfl (int_eq (by rfl))), ?_⟩
 ·refine (ho20.fin (by omega) (by omega) (by omega)).cast ?_
  rfl

set_option maxHeartbeats 8000000 in
theorem c_spec_DrawPayAll (w0 : World) (v_code : Value) (code : List UInt8) {S_code : Nat → Prop} (h_code : Rds shU8 S_code w0 v_code code) :
  Calls Try.prog 53 #[v_code] w0 (Ret w0 (fun v w1 => ∃ (l : List Ent) (d : Int), (l.length ≤ 61) ∧ (I64 d) ∧ (fun v w1 => ∃ r0, v = .tuple #[r0, .int .i64 (d)] ∧ Own shEnt 41 w0.heap.size w0.heap.size w1.heap.size w1 r0 (l)) v w1)) := by
 refine enter (N := 16) Try.func53 rfl rfl rfl ?_
 intro a0 ha0
 have hx0 := Ext.rfl' w0
 have hl_code := h_code.length_le
 refine wp_seq ?_
 refine wp_region_lit ?_
 refine wl_val ha0 rfl rfl rfl (op_assign ha0 rfl rfl) ?_
 intro a1 ha1; clear ha0 a0
 refine wl_val ha1 rfl rfl rfl (op_assign ha1 rfl rfl) ?_
 intro a2 ha2; clear ha1 a1
 refine wpList_nil ?_
 refine then_n ?_
 refine wp_seq ?_
 refine wp_region_lit ?_
 refine wl_val ha2 rfl rfl rfl (op_move ha2 rfl rfl) ?_
 intro a3 ha3; clear ha2 a2
 refine wl_callR ha3 rfl rfl rfl (op_call ha3 rfl cb70 rfl) (c_spec_l01From _ v_code code (h_code.low pos_shU8 hx0 (Nat.le_refl _)) (by omega)) ?_
 rintro v4 w5 he6 ⟨g7, rfl, hg8, hS9⟩ a10 ha10; clear ha3 a3
 have hx11 := hx0.trans' he6
 have hzhx11 := he6.size
 have hSlhS9 := hS9.lt
 refine wl_val ha10 rfl rfl rfl (op_assign ha10 rfl rfl) ?_
 intro a12 ha12; clear ha10 a10
 refine wpList_nil ?_
 refine then_n ?_
 refine wp_seq ?_
 refine wp_region_lit ?_
 refine wl_val ha12 rfl rfl rfl (op_move ha12 rfl rfl) ?_
 intro a13 ha13; clear ha12 a12
 refine wl_callS ha13 rfl rfl rfl (op_call ha13 rfl cb71 rfl) (c_spec_l33Draw _ g7 w0.heap.size hS9) ?_
 rintro v14 w15 he16 ⟨hS17, ⟨q18, hq19, ho20⟩⟩ a21 ha21; clear ha13 a13
 have hx22 := hx11.stp he16 (by intro q hq; cases hq; exact (by omega))
 have hzhx22 := he16.size
 clear hS9
 have hSlhS17 := hS17.lt
 refine wl_val ha21 rfl rfl rfl (op_assign ha21 rfl rfl) ?_
 intro a23 ha23; clear ha21 a21
 refine wpList_nil ?_
 refine then_n ?_
 refine wp_seq ?_
 refine wp_region_lit ?_
 refine wl_val ha23 rfl rfl rfl (op_move ha23 rfl rfl) ?_
 intro a24 ha24; clear ha23 a23
 refine wl_val ha24 rfl rfl rfl (op_move ha24 rfl rfl) ?_
 intro a25 ha25; clear ha24 a24
 refine wl_val ha25 rfl rfl rfl (op_move ha25 rfl rfl) ?_
 intro a26 ha26; clear ha25 a25
 refine wl_callS ha26 rfl rfl rfl (op_call ha26 rfl cb73 rfl) (c_spec_l01Next _ g7 w0.heap.size (60 : Int) hS17) ?_
 rintro v27 w28 he29 ⟨hS30, ⟨q31, hq32, hq33, hq34, rfl⟩⟩ a35 ha35; clear ha26 a26
 have hx36 := hx22.stp he29 (by intro q hq; cases hq; exact (by omega))
 have hzhx36 := he29.size
 first | replace ho20 := ho20.stp he29 (by intro q hq; cases hq; omega) | replace ho20 := ho20.stpF flat_shEnt he29 (by intro q hq; cases hq; exact ho20.ne_box (by assumption) rfl)
 clear hS17
 have hSlhS30 := hS30.lt
 refine wl_eff ha35 rfl rfl rfl (op_buildSlice (s := shI64) (xs := [(95 : Int), (99 : Int), (q31 : Int), (100000 : Int), (100001 : Int)]) (cs := [.int .i64 (95 : Int), .int .i64 (99 : Int), .int .i64 (q31 : Int), .int .i64 (100000 : Int), .int .i64 (100001 : Int)]) (vs := [(0, .int .i64 (95 : Int)), (1, .int .i64 (99 : Int)), (2, .int .i64 (q31 : Int)), (3, .int .i64 (100000 : Int)), (4, .int .i64 (100001 : Int))]) (S := fun _ => False) (le := w28.heap.size) ha35 rfl pos_shI64 Try.underlying45 ti2 rfl rfl (by decide) (by kernel_rfl) ⟨mk_shI64 ((95 : Int)) (by first | assumption | omega | (constructor <;> omega) | (dsimp only; omega) | (simp; done) | (simp; omega)), mk_shI64 ((99 : Int)) (by first | assumption | omega | (constructor <;> omega) | (dsimp only; omega) | (simp; done) | (simp; omega)), mk_shI64 ((q31 : Int)) (by first | assumption | omega | (constructor <;> omega) | (dsimp only; omega) | (simp; done) | (simp; omega)), mk_shI64 ((100000 : Int)) (by first | assumption | omega | (constructor <;> omega) | (dsimp only; omega) | (simp; done) | (simp; omega)), mk_shI64 ((100001 : Int)) (by first | assumption | omega | (constructor <;> omega) | (dsimp only; omega) | (simp; done) | (simp; omega)), rfl⟩ (fun _ h => h.elim)) ?_
 rintro v37 w38 ⟨ho39, he40, hob41⟩ a42 ha42; clear ha35 a35
 have hx43 := hx36.trans' he40
 have hzhx43 := he40.size
 replace ho20 := ho20.ext he40
 replace hS30 := hS30.ext he40
 refine wl_callS ha42 rfl rfl rfl (op_call ha42 rfl cb72 rfl) (c_spec_l01Pick _ g7 w0.heap.size v37 ([(95 : Int), (99 : Int), (q31 : Int), (100000 : Int), (100001 : Int)]) hS30 (ho39.rds pos_shI64) (by rintro ⟨_, _⟩; omega) (by first | assumption | omega | (constructor <;> omega) | (dsimp only; omega) | (simp; done) | (simp; omega))) ?_
 rintro v44 w45 he46 ⟨hS47, ⟨q48, hq49, rfl⟩⟩ a50 ha50; clear ha42 a42
 have hx51 := hx43.stp he46 (by intro q hq; cases hq; exact (by omega))
 have hzhx51 := he46.size
 first | replace ho20 := ho20.stp he46 (by intro q hq; cases hq; omega) | replace ho20 := ho20.stpF flat_shEnt he46 (by intro q hq; cases hq; exact ho20.ne_box (by assumption) rfl)
 first | replace ho39 := ho39.stp he46 (by intro q hq; cases hq; omega) | replace ho39 := ho39.stpF flat_shI64 he46 (by intro q hq; cases hq; exact ho39.ne_box (by assumption) rfl)
 clear hS30
 have hSlhS47 := hS47.lt
 simp only [List.mem_cons, List.not_mem_nil, or_false] at hq49
 refine wl_val ha50 rfl rfl rfl (op_assign ha50 rfl rfl) ?_
 intro a52 ha52; clear ha50 a50
 refine wl_val ha52 rfl rfl rfl (op_assign ha52 rfl rfl) ?_
 intro a53 ha53; clear ha52 a52
 refine wpList_nil ?_
 refine then_n ?_
 refine wp_ret ?_
 refine ret2 ha53 rfl rfl rfl ?_
 clear ha53 a53
 refine ret_mk hx51 ?_
 refine ⟨(((q18)) : List Ent), (q48 : Int), (by first | assumption | omega | (constructor <;> omega) | (dsimp only; omega) | (simp; done) | (simp; omega)), (by first | assumption | omega | (constructor <;> omega) | (dsimp only; omega) | (simp; done) | (simp; omega)), ?_⟩
 refine ⟨v14, (tup2_eq rfl (int_eq (by rfl))), ?_⟩
 ·refine (ho20.fin (by omega) (by omega) (by omega)).cast ?_
  rfl

set_option maxHeartbeats 8000000 in
theorem c_spec_DrawOwesOf (w0 : World) (v_code : Value) (code : List UInt8) {S_code : Nat → Prop} (h_code : Rds shU8 S_code w0 v_code code) :
  Calls Try.prog 74 #[v_code] w0 (Ret w0 (fun v w1 => ∃ (l : List Ent) (d : Str), (l.length ≤ 61) ∧ (d.length ≤ 17) ∧ (fun v w1 => ∃ r0, v = .tuple #[r0, St (d)] ∧ Own shEnt 41 w0.heap.size w0.heap.size w1.heap.size w1 r0 (l)) v w1)) := by
 refine enter (N := 13) Try.func74 rfl rfl rfl ?_
 intro a0 ha0
 have hx0 := Ext.rfl' w0
 have hl_code := h_code.length_le
 refine wp_seq ?_
 refine wp_region_lit ?_
 refine wl_val ha0 rfl rfl rfl (op_assign ha0 rfl rfl) ?_
 intro a1 ha1; clear ha0 a0
 refine wl_val ha1 rfl rfl rfl (op_assign ha1 rfl rfl) ?_
 intro a2 ha2; clear ha1 a1
 refine wpList_nil ?_
 refine then_n ?_
 refine wp_seq ?_
 refine wp_region_lit ?_
 refine wl_val ha2 rfl rfl rfl (op_move ha2 rfl rfl) ?_
 intro a3 ha3; clear ha2 a2
 refine wl_callR ha3 rfl rfl rfl (op_call ha3 rfl cb70 rfl) (c_spec_l01From _ v_code code (h_code.low pos_shU8 hx0 (Nat.le_refl _)) (by omega)) ?_
 rintro v4 w5 he6 ⟨g7, rfl, hg8, hS9⟩ a10 ha10; clear ha3 a3
 have hx11 := hx0.trans' he6
 have hzhx11 := he6.size
 have hSlhS9 := hS9.lt
 refine wl_val ha10 rfl rfl rfl (op_assign ha10 rfl rfl) ?_
 intro a12 ha12; clear ha10 a10
 refine wpList_nil ?_
 refine then_n ?_
 refine wp_seq ?_
 refine wp_region_lit ?_
 refine wl_val ha12 rfl rfl rfl (op_move ha12 rfl rfl) ?_
 intro a13 ha13; clear ha12 a12
 refine wl_callS ha13 rfl rfl rfl (op_call ha13 rfl cb71 rfl) (c_spec_l33Draw _ g7 w0.heap.size hS9) ?_
 rintro v14 w15 he16 ⟨hS17, ⟨q18, hq19, ho20⟩⟩ a21 ha21; clear ha13 a13
 have hx22 := hx11.stp he16 (by intro q hq; cases hq; exact (by omega))
 have hzhx22 := he16.size
 clear hS9
 have hSlhS17 := hS17.lt
 refine wl_val ha21 rfl rfl rfl (op_assign ha21 rfl rfl) ?_
 intro a23 ha23; clear ha21 a21
 refine wpList_nil ?_
 refine then_n ?_
 refine wp_seq ?_
 refine wp_region_lit ?_
 refine wl_val ha23 rfl rfl rfl (op_move ha23 rfl rfl) ?_
 intro a24 ha24; clear ha23 a23
 refine wl_val ha24 rfl rfl rfl (op_move ha24 rfl rfl) ?_
 intro a25 ha25; clear ha24 a24
 refine wl_callS ha25 rfl rfl rfl (op_call ha25 rfl cb79 rfl) (c_spec_l33Name _ g7 w0.heap.size hS17) ?_
 rintro v26 w27 he28 ⟨hS29, ⟨q30, hq31, rfl⟩⟩ a32 ha32; clear ha25 a25
 have hx33 := hx22.stp he28 (by intro q hq; cases hq; exact (by omega))
 have hzhx33 := he28.size
 first | replace ho20 := ho20.stp he28 (by intro q hq; cases hq; omega) | replace ho20 := ho20.stpF flat_shEnt he28 (by intro q hq; cases hq; exact ho20.ne_box (by assumption) rfl)
 clear hS17
 have hSlhS29 := hS29.lt
 refine wl_val ha32 rfl rfl rfl (op_assign ha32 rfl rfl) ?_
 intro a34 ha34; clear ha32 a32
 refine wl_val ha34 rfl rfl rfl (op_assign ha34 rfl rfl) ?_
 intro a35 ha35; clear ha34 a34
 refine wpList_nil ?_
 refine then_n ?_
 refine wp_ret ?_
 refine ret2 ha35 rfl rfl rfl ?_
 clear ha35 a35
 refine ret_mk hx33 ?_
 refine ⟨(((q18)) : List Ent), ((q30) : Str), (by first | assumption | omega | (constructor <;> omega) | (dsimp only; omega) | (simp; done) | (simp; omega)), (by first | assumption | omega | (constructor <;> omega) | (dsimp only; omega) | (simp; done) | (simp; omega)), ?_⟩
 refine ⟨v14, (tup2_eq rfl (congrArg St (by rfl))), ?_⟩
 ·refine (ho20.fin (by omega) (by omega) (by omega)).cast ?_
  rfl

set_option maxHeartbeats 8000000 in
theorem c_spec_DrawOldestDebt (w0 : World) (v_code : Value) (code : List UInt8) {S_code : Nat → Prop} (h_code : Rds shU8 S_code w0 v_code code) :
  Calls Try.prog 54 #[v_code] w0 (Ret w0 (fun v w1 => ∃ (l : List Ent) (d : Str), (l.length ≤ 61) ∧ (d.length ≤ 17) ∧ (fun v w1 => ∃ r0, v = .tuple #[r0, St (d)] ∧ Own shEnt 41 w0.heap.size w0.heap.size w1.heap.size w1 r0 (l)) v w1)) := by
 refine enter (N := 8) Try.func54 rfl rfl rfl ?_
 intro a0 ha0
 have hx0 := Ext.rfl' w0
 have hl_code := h_code.length_le
 refine wp_seq ?_
 refine wp_region_lit ?_
 refine wl_val ha0 rfl rfl rfl (op_assign ha0 rfl rfl) ?_
 intro a1 ha1; clear ha0 a0
 refine wl_val ha1 rfl rfl rfl (op_assign ha1 rfl rfl) ?_
 intro a2 ha2; clear ha1 a1
 refine wpList_nil ?_
 refine then_n ?_
 refine wp_seq ?_
 refine wp_region_lit ?_
 refine wl_val ha2 rfl rfl rfl (op_move ha2 rfl rfl) ?_
 intro a3 ha3; clear ha2 a2
 refine wl_callR ha3 rfl rfl rfl (op_call ha3 rfl cb74 rfl) (c_spec_DrawOwesOf _ v_code code (h_code.ext pos_shU8 hx0)) ?_
 rintro v4 w5 he6 ⟨q7, q8, hq9, hq10, ⟨v11, rfl, ho12⟩⟩ a13 ha13; clear ha3 a3
 have hx14 := hx0.trans' he6
 have hzhx14 := he6.size
 refine wl_val ha13 rfl rfl rfl (op_extract ha13 rfl rfl rfl) ?_
 intro a15 ha15; clear ha13 a13
 refine wl_val ha15 rfl rfl rfl (op_extract ha15 rfl rfl rfl) ?_
 intro a16 ha16; clear ha15 a15
 refine wl_val ha16 rfl rfl rfl (op_assign ha16 rfl rfl) ?_
 intro a17 ha17; clear ha16 a16
 refine wl_val ha17 rfl rfl rfl (op_assign ha17 rfl rfl) ?_
 intro a18 ha18; clear ha17 a17
 refine wpList_nil ?_
 refine then_n ?_
 refine wp_ret ?_
 refine ret2 ha18 rfl rfl rfl ?_
 clear ha18 a18
 refine ret_mk hx14 ?_
 refine ⟨(((q7)) : List Ent), ((q8) : Str), (by first | assumption | omega | (constructor <;> omega) | (dsimp only; omega) | (simp; done) | (simp; omega)), (by first | assumption | omega | (constructor <;> omega) | (dsimp only; omega) | (simp; done) | (simp; omega)), ?_⟩
 refine ⟨v11, (tup2_eq rfl (congrArg St (by rfl))), ?_⟩
 ·refine (ho12.fin (by omega) (by omega) (by omega)).cast ?_
  rfl


end Go.Proofs.Ytocedhbefdaefaa
