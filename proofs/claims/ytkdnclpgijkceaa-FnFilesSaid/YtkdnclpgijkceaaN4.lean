/- Dice. -/
import Derived.Test.YtkdnclpgijkceaaDraw
import Derived.Test.YtkdnclpgijkceaaShapes
namespace Go.Proofs.Ytkdnclpgijkceaa
open Go Go.RowKit

def andU (a b : Int) : Int := IntKind.u64.wrap ((BitVec.ofInt 64 a &&& BitVec.ofInt 64 b).toNat : Nat)
theorem andU_bd (a b : Int) (h0 : 0 ≤ b) (h1 : b < 18446744073709551616) : 0 ≤ andU a b ∧ andU a b ≤ b := by
  have h2 : (BitVec.ofInt 64 a &&& BitVec.ofInt 64 b).toNat ≤ b.toNat := by
    rw [BitVec.toNat_and]
    refine Nat.le_trans Nat.and_le_right ?_
    rw [BitVec.toNat_ofInt]; omega
  unfold andU
  rw [IntWalk.u64_in _ (by omega)]; omega
/-- In block g lie dice: their bytes, how many have been taken, what they hold. -/
def Dice (w : World) (g b T : Nat) : Prop := b ≤ g ∧ ∃ (v : Value) (code : List UInt8) (at_ : Nat) (seed : Int), Box w g T [v, .int .i64 (at_ : Int), .int .u64 seed] ∧ Rds shU8 (Iv 0 b) w v code ∧ at_ ≤ code.length ∧ (0 : Int) ≤ 0 ∧ (0 : Int) < 1
theorem Dice.lt {w : World} {g b T : Nat} (h : Dice w g b T) : g < w.heap.size ∧ b ≤ g := by obtain ⟨h0, _, _, _, _, h, _⟩ := h; exact ⟨h.lt, h0⟩
theorem Dice.stp {w w' : World} {g b T : Nat} {r : Option Nat} (h : Dice w g b T) (k : Stp w w' r) (hr : ∀ q, r = some q → b ≤ q ∧ g ≠ q) : Dice w' g b T := by
  obtain ⟨h0, v, code, at_, seed, hB, hR, h1⟩ := h
  exact ⟨h0, v, code, at_, seed, hB.stp k (fun q hq => (hr q hq).2), hR.stp pos_shU8 k (fun q hq hi => by have := hr q hq; have := hi.2; omega), h1⟩
theorem Dice.ext {w w' : World} {g b T : Nat} (h : Dice w g b T) (k : Ext w w') : Dice w' g b T := h.stp (Stp.of_ext k) (by simp)
section
variable {P : Program} {a : Act} {o : Oper} {w : World} {N : Nat} {l : List (Nat × Value)} {x y : Operand} {T T' : TypeId} {k' : IntKind} {m n : Int}
theorem op_andu (ha : Sl N a l) (ho : o.op = .binOp .and T x y T') (hx : ev l x = some (.int .u64 m)) (hy : ev l y = some (.int .u64 n)) : OpVal P a o w (.int .u64 (andU m n)) :=
  op_bin ha ho hx hy (by simp) (by simp) (by simp [binOp, Op.intBits, andU]; rfl)
theorem op_shru (ha : Sl N a l) (ho : o.op = .binOp .shr T x y T') (hx : ev l x = some (.int .u64 m)) (hy : ev l y = some (.int k' n)) (h0 : 0 ≤ n) : OpVal P a o w (.int .u64 (Int.fdiv m (2 ^ (min n.toNat 64)))) :=
  op_bin ha ho hx hy (by simp) (by simp) (by simp [binOp, Op.shift, show ¬ n < 0 by omega]; rfl)
end

theorem c_laws_roll (w0 : World) (v_code : Value) (code : List UInt8) {b_code : Nat} (seed : Int) (h_code : Rds shU8 (Iv 0 b_code) w0 v_code code) (l_code : b_code ≤ w0.heap.size) :
  Calls Try.prog 44 #[v_code, .int .u64 seed] w0 (Ret w0 (fun v w1 => ∃ g, v = .pointer (some (⟨g, 0, none⟩ : Addr)) ∧ w0.heap.size ≤ g ∧ Dice w1 g b_code 76)) := by
 refine enter (N := 38) Try.func44 rfl rfl rfl ?_
 intro a0 ha0
 have hx0 := Ext.rfl' w0
 have hl_code := h_code.length_le
 refine wp_seq ?_
 refine wp_region_lit ?_
 refine wl_val ha0 rfl rfl rfl (op_assign ha0 rfl rfl) ?_
 intro a1 ha1; clear ha0 a0
 refine wpList_nil ?_
 refine then_n ?_
 refine wp_seq ?_
 refine wp_region_lit ?_
 refine wl_val ha1 rfl rfl rfl (op_move ha1 rfl rfl) ?_
 intro a2 ha2; clear ha1 a1
 refine wl_val ha2 rfl rfl rfl (op_move ha2 rfl rfl) ?_
 intro a3 ha3; clear ha2 a2
 refine wl_val ha3 rfl rfl rfl (op_mul ha3 rfl rfl rfl) ?_
 intro a4 ha4; clear ha3 a3
 refine wl_val ha4 rfl rfl rfl (op_move ha4 rfl rfl) ?_
 intro a5 ha5; clear ha4 a4
 refine wl_val ha5 rfl rfl rfl (op_len_sl ha5 rfl Try.underlying51 rfl h_code) ?_
 intro a6 ha6; clear ha5 a5
 refine wl_val ha6 rfl rfl rfl (op_conv_int ha6 rfl Try.underlying3 Try.underlying57 rfl) ?_
 intro a7 ha7; clear ha6 a6
 refine wl_val ha7 rfl rfl rfl (op_add ha7 rfl rfl rfl) ?_
 intro a8 ha8; clear ha7 a7
 refine wl_val ha8 rfl rfl rfl (op_build (vs := [(0, v_code), (2, .int .u64 (IntKind.u64.wrap ((IntKind.u64.wrap (seed * (7919 : Int))) + (IntKind.u64.wrap ((code.length : Nat) : Int)))))]) (cs := #[v_code, .int .i64 (0 : Int), .int .u64 (IntKind.u64.wrap ((IntKind.u64.wrap (seed * (7919 : Int))) + (IntKind.u64.wrap ((code.length : Nat) : Int))))]) ha8 rfl Try.underlying76 ti76 bp76 rfl ((fill_one h_code.cells1 rfl rfl).trans ((fill_one rfl rfl rfl).trans rfl))) ?_
 intro a9 ha9; clear ha8 a8
 refine wl_eff ha9 rfl rfl rfl (op_box' ha9 rfl rfl rfl) ?_
 rintro _ w11 ⟨rfl, he12, hb13, hz14⟩ a15 ha15; clear ha9 a9
 have hx16 := hx0.trans' he12
 have hzhx16 := he12.size
 refine wl_val ha15 rfl rfl rfl (op_assign ha15 rfl rfl) ?_
 intro a17 ha17; clear ha15 a15
 refine wpList_nil ?_
 refine then_n ?_
 refine wp_seq ?_
 refine wp_seq ?_
 refine wp_region_lit ?_
 refine wl_val ha17 rfl rfl rfl (op_assign ha17 rfl rfl) ?_
 intro a18 ha18; clear ha17 a17
 refine wpList_nil ?_
 refine then_n ?_
 refine wp_block ?_
 refine loop_inv (X := Nat × Int) (fun (⟨i, q⟩ : Nat × Int) fr wl => Sl 38 fr [(0, v_code), (5, .pointer (some (⟨w0.heap.size, 0, none⟩ : Addr))), (6, .int .i64 ((i : Nat) : Int))] ∧ Ext w0 wl ∧ Box wl w0.heap.size 76 [v_code, .int .i64 (0 : Int), .int .u64 q] ∧ w11.heap.size ≤ wl.heap.size ∧ (i ≤ code.length)) (fun (⟨i, q⟩ : Nat × Int) => code.length - i) (0, (IntKind.u64.wrap ((IntKind.u64.wrap (seed * (7919 : Int))) + (IntKind.u64.wrap ((code.length : Nat) : Int))))) ?_ ?_
 ·
  exact ⟨(Sl.cons_ ha18 rfl rfl (Sl.cons_ ha18 rfl rfl (Sl.cons_ ha18 rfl (int_eq (by omega)) (Sl.nil_ ha18)))), hx16, hb13, (by omega), (by omega)⟩
 ·
  clear ha18 a18
  rintro ⟨i, q⟩ a22 w19 ⟨ha22, hx20, hf21, hzl23, hi⟩
  have hzhx20 := hx20.size
  refine wp_seq ?_
  refine wp_seq ?_
  refine wp_region_lit ?_
  refine wl_val ha22 rfl rfl rfl (op_move ha22 rfl rfl) ?_
  intro a24 ha24; clear ha22 a22
  refine wl_val ha24 rfl rfl rfl (op_move ha24 rfl rfl) ?_
  intro a25 ha25; clear ha24 a24
  refine wl_val ha25 rfl rfl rfl (op_len_sl ha25 rfl Try.underlying51 rfl h_code) ?_
  intro a26 ha26; clear ha25 a25
  refine wl_val ha26 rfl rfl rfl (op_lss ha26 rfl rfl rfl) ?_
  intro a27 ha27; clear ha26 a26
  refine wpList_nil ?_
  refine then_n ?_
  by_cases c28 : ((i : Nat) : Int) < ((code.length : Nat) : Int)
  ·
   rw [decide_eq_true c28] at ha27
   refine cond_t ha27 rfl ?_
   refine wp_skip ?_
   refine then_n ?_
   refine wp_seq ?_
   refine wp_block ?_
   refine dr_enter (fun wa_ wb_ => Stp wa_ wb_ (some w0.heap.size)) follows_mixed ?_
   intro w29 he30
   have hx31 := hx20.trans' he30
   have hzhx31 := he30.size
   replace hf21 := hf21.ext he30
   have hs32 : Ext w29 w29 := Ext.rfl' _
   refine dr_val (i := 0) ha27 rfl (by kernel_rfl) (by kernel_rfl) (by kernel_rfl) rfl rfl rfl (Stp.of_ext hs32 _) (fun w' hw' => op_move ha27 rfl rfl) ?_
   intro a33 ha33; clear ha27 a27
   refine dr_val (i := 1) ha33 rfl (by kernel_rfl) (by kernel_rfl) (by kernel_rfl) rfl rfl rfl (Stp.of_ext hs32 _) (fun w' hw' => op_move ha33 rfl rfl) ?_
   intro a34 ha34; clear ha33 a33
   refine dr_val (i := 2) ha34 rfl (by kernel_rfl) (by kernel_rfl) (by kernel_rfl) rfl rfl rfl (Stp.of_ext hs32 _) (fun w' hw' => op_nilCheck ha34 rfl rfl) ?_
   intro a35 ha35; clear ha34 a34
   refine dr_val (i := 3) ha35 rfl (by kernel_rfl) (by kernel_rfl) (by kernel_rfl) rfl rfl rfl (Stp.of_ext hs32 _) (fun w' hw' => op_fieldAddr (sz := 0) ha35 rfl Try.underlying76 rfl rfl ti57 rfl) ?_
   intro a36 ha36; clear ha35 a35
   refine dr_val (i := 6) ha36 rfl (by kernel_rfl) (by kernel_rfl) (by kernel_rfl) rfl rfl rfl (Stp.of_ext hs32 _) (fun w' hw' => op_move ha36 rfl rfl) ?_
   intro a37 ha37; clear ha36 a36
   refine dr_val (i := 7) ha37 rfl (by kernel_rfl) (by kernel_rfl) (by kernel_rfl) rfl rfl rfl (Stp.of_ext hs32 _) (fun w' hw' => op_move ha37 rfl rfl) ?_
   intro a38 ha38; clear ha37 a37
   obtain ⟨x39, hx39⟩ := get_ex (xs := code) (j := i) (by omega)
   obtain ⟨p40, c41, hi42, hc43, hr44, hs45⟩ := Rds.at_ h_code hx39
   obtain rfl := inv_shU8 hr44
   have hltx39 := x39.toNat_lt
   refine dr_val (i := 8) ha38 rfl (by kernel_rfl) (by kernel_rfl) (by kernel_rfl) rfl rfl rfl (Stp.of_ext hs32 _) (fun w' hw' => op_indexAddr ha38 rfl Try.underlying51 ti5 rfl rfl (by omega) hi42) ?_
   intro a47 ha47; clear ha38 a38
   refine dr_val (i := 9) ha47 rfl (by kernel_rfl) (by kernel_rfl) (by kernel_rfl) rfl rfl rfl (Stp.of_ext hs32 _) (fun w' hw' => op_loadH ha47 rfl Try.underlying5 rfl rfl (hc43.ext (hx31.stp hw' (by intro q hq; cases hq; omega))) rfl) ?_
   intro a48 ha48; clear ha47 a47
   refine dr_val (i := 10) ha48 rfl (by kernel_rfl) (by kernel_rfl) (by kernel_rfl) rfl rfl rfl (Stp.of_ext hs32 _) (fun w' hw' => op_conv_int ha48 rfl Try.underlying5 Try.underlying57 rfl) ?_
   intro a49 ha49; clear ha48 a48
   refine dr_one (i := 4) (by kernel_rfl) ?_
   refine po_to ha49 rfl rfl rfl rfl (op_loadF (off := 2) ha49 rfl Try.underlying57 rfl rfl (hf21.ext hs32).cells rfl) ?_
   intro a50 ha50; clear ha49 a49
   refine ⟨(Stp.of_ext hs32 _), ?_⟩
   refine dr_val (i := 5) ha50 rfl (by kernel_rfl) (by kernel_rfl) (by kernel_rfl) rfl rfl rfl (Stp.of_ext hs32 _) (fun w' hw' => op_mul ha50 rfl rfl rfl) ?_
   intro a51 ha51; clear ha50 a50
   refine dr_val (i := 11) ha51 rfl (by kernel_rfl) (by kernel_rfl) (by kernel_rfl) rfl rfl rfl (Stp.of_ext hs32 _) (fun w' hw' => op_add ha51 rfl rfl rfl) ?_
   intro a52 ha52; clear ha51 a51
   refine dr_val (i := 12) ha52 rfl (by kernel_rfl) (by kernel_rfl) (by kernel_rfl) rfl rfl rfl (Stp.of_ext hs32 _) (fun w' hw' => op_add ha52 rfl rfl rfl) ?_
   intro a53 ha53; clear ha52 a52
   refine dr_val (i := 13) ha53 rfl (by kernel_rfl) (by kernel_rfl) (by kernel_rfl) rfl rfl rfl (Stp.of_ext hs32 _) (fun w' hw' => op_nilCheck ha53 rfl rfl) ?_
   intro a54 ha54; clear ha53 a53
   refine dr_val (i := 14) ha54 rfl (by kernel_rfl) (by kernel_rfl) (by kernel_rfl) rfl rfl rfl (Stp.of_ext hs32 _) (fun w' hw' => op_fieldAddr (sz := 0) ha54 rfl Try.underlying76 rfl rfl ti57 rfl) ?_
   intro a55 ha55; clear ha54 a54
   refine dr_one (i := 15) (by kernel_rfl) ?_
   replace hf21 := hf21.ext hs32
   refine po_effS ha55 rfl rfl rfl (op_store' (off := 2) ha55 rfl ti57 rfl rfl hf21 rfl rfl (by simp [Value.oneCell']) (Nat.le_of_ble_eq_true rfl)) ?_
   rintro w61 ⟨hb63, hst62, hz64⟩
   have hx65 := hx31.stp hst62 (by intro q hq; cases hq; exact (by omega))
   have hzhx65 := hst62.size
   clear hf21
   have hs60 := (Stp.of_ext hs32 (some w0.heap.size)).trans' hst62
   refine ⟨hs60, ?_⟩
   refine dr_end (by kernel_rfl) ?_
   refine block_n ?_
   refine then_n ?_
   refine wp_region_lit ?_
   refine wl_val ha55 rfl rfl rfl (op_move ha55 rfl rfl) ?_
   intro a66 ha66; clear ha55 a55
   refine wl_val ha66 rfl rfl rfl ((op_add ha66 rfl rfl rfl).int (IntWalk.i64_in _ (by omega))) ?_
   intro a67 ha67; clear ha66 a66
   refine wl_val ha67 rfl rfl rfl (op_assign ha67 rfl rfl) ?_
   intro a68 ha68; clear ha67 a67
   refine wpList_nil ?_
   refine round_end (x := (i, q)) ((i + 1), (IntKind.u64.wrap ((IntKind.u64.wrap ((IntKind.u64.wrap (q * (1099511628211 : Int))) + (IntKind.u64.wrap (x39.toNat : Int)))) + (3 : Int)))) ?_ ?_
   ·
    refine ⟨(Sl.cons_ ha68 rfl rfl (Sl.cons_ ha68 rfl rfl (Sl.cons_ ha68 rfl (int_eq (by omega)) (Sl.nil_ ha68)))), hx65, hb63, (by omega), (by omega)⟩
   ·show (code.length - ((i + 1)) : Nat) < code.length - i; omega
  ·
   rw [decide_eq_false c28] at ha27
   refine cond_f ha27 rfl ?_
   refine wp_exit ?_
   refine then_e ?_
   refine then_e ?_
   refine block_hit ?_
   refine then_n ?_
   refine wp_seq ?_
   refine wp_region_lit ?_
   refine wl_val ha27 rfl rfl rfl (op_move ha27 rfl rfl) ?_
   intro a69 ha69; clear ha27 a27
   refine wl_val ha69 rfl rfl rfl (op_assign ha69 rfl rfl) ?_
   intro a70 ha70; clear ha69 a69
   refine wpList_nil ?_
   refine then_n ?_
   refine wp_ret ?_
   refine ret1 ha70 rfl rfl ?_
   clear ha70 a70
   exact ret_mk hx20 ⟨w0.heap.size, rfl, by omega, ⟨by omega, _, _, 0, q, hf21, (h_code.ext pos_shU8 hx20), by omega, by omega, by omega⟩⟩

theorem c_laws_below (w0 : World) (g_s b_s : Nat) (n : Int) (h_s : Dice w0 g_s b_s 76) (g0 : 1 ≤ n) (g1 : I64 n) :
  Calls Try.prog 45 #[.pointer (some (⟨g_s, 0, none⟩ : Addr)), .int .i64 n] w0 (RetS w0 (some g_s) (fun v w1 => Dice w1 g_s b_s 76 ∧ (fun v w1 => ∃ (r : Int), (0 ≤ r) ∧ (r < n) ∧ (fun v _ => v = .int .i64 (r)) v w1) v w1)) := by
 refine enter (N := 56) Try.func45 rfl rfl rfl ?_
 intro a0 ha0
 have hx0 := Stp.rfl' w0 (some g_s)
 have hgl_s := h_s.lt
 obtain ⟨_, v_s, code_s, at_s, seed_s, hB_s, hr_s, hat_s, hs0_s, hs1_s⟩ := h_s
 have hcl_s := hr_s.length_le
 refine wp_seq ?_
 refine wp_region_lit ?_
 refine wl_val ha0 rfl rfl rfl (op_assign ha0 rfl rfl) ?_
 intro a1 ha1; clear ha0 a0
 refine wpList_nil ?_
 refine then_n ?_
 refine wp_seq ?_
 refine wp_region_lit ?_
 refine wl_val ha1 rfl rfl rfl (op_move ha1 rfl rfl) ?_
 intro a2 ha2; clear ha1 a1
 refine wl_val ha2 rfl rfl rfl (op_move ha2 rfl rfl) ?_
 intro a3 ha3; clear ha2 a2
 refine wl_val ha3 rfl rfl rfl (op_nilCheck ha3 rfl rfl) ?_
 intro a4 ha4; clear ha3 a3
 refine wl_val ha4 rfl rfl rfl (op_fieldAddr (sz := 0) ha4 rfl Try.underlying76 rfl rfl ti57 rfl) ?_
 intro a5 ha5; clear ha4 a4
 refine wl_val ha5 rfl rfl rfl (op_loadF (off := 2) ha5 rfl Try.underlying57 rfl rfl hB_s.cells rfl) ?_
 intro a6 ha6; clear ha5 a5
 refine wl_val ha6 rfl rfl rfl (op_mul ha6 rfl rfl rfl) ?_
 intro a7 ha7; clear ha6 a6
 refine wl_val ha7 rfl rfl rfl (op_add ha7 rfl rfl rfl) ?_
 intro a8 ha8; clear ha7 a7
 refine wl_val ha8 rfl rfl rfl (op_nilCheck ha8 rfl rfl) ?_
 intro a9 ha9; clear ha8 a8
 refine wl_val ha9 rfl rfl rfl (op_fieldAddr (sz := 0) ha9 rfl Try.underlying76 rfl rfl ti57 rfl) ?_
 intro a10 ha10; clear ha9 a9
 refine wl_effS ha10 rfl rfl (op_store' (off := 2) ha10 rfl ti57 rfl rfl hB_s rfl rfl (by simp [Value.oneCell']) (Nat.le_of_ble_eq_true rfl)) ?_
 rintro w11 ⟨hb13, hst12, hz14⟩
 have hx15 := hx0.trans' hst12
 have hzhx15 := hst12.size
 replace hr_s := hr_s.stp pos_shU8 hst12 (by intro q hq; cases hq; exact not_iv (by omega))
 clear hB_s
 refine wpList_nil ?_
 refine then_n ?_
 refine wp_seq ?_
 refine wp_region_lit ?_
 refine wl_val ha10 rfl rfl rfl (op_move ha10 rfl rfl) ?_
 intro a16 ha16; clear ha10 a10
 refine wl_val ha16 rfl rfl rfl (op_nilCheck ha16 rfl rfl) ?_
 intro a17 ha17; clear ha16 a16
 refine wl_val ha17 rfl rfl rfl (op_fieldAddr (sz := 0) ha17 rfl Try.underlying76 rfl rfl ti57 rfl) ?_
 intro a18 ha18; clear ha17 a17
 refine wl_val ha18 rfl rfl rfl (op_loadF (off := 2) ha18 rfl Try.underlying57 rfl rfl hb13.cells rfl) ?_
 intro a19 ha19; clear ha18 a18
 refine wl_val ha19 rfl rfl rfl (op_shru ha19 rfl rfl rfl (by omega)) ?_
 intro a20 ha20; clear ha19 a19
 have hb21 := andU_bd (Int.fdiv (IntKind.u64.wrap ((IntKind.u64.wrap (seed_s * (6364136223846793005 : Int))) + (1442695040888963407 : Int))) (2 ^ (min ((33 : Int)).toNat 64))) (16777215 : Int) (by omega) (by omega)
 refine wl_val ha20 rfl rfl rfl (op_andu ha20 rfl rfl rfl) ?_
 intro a22 ha22; clear ha20 a20
 refine wl_val ha22 rfl rfl rfl ((op_conv_int ha22 rfl Try.underlying57 Try.underlying2 rfl).int (IntWalk.i64_in _ (by omega))) ?_
 intro a23 ha23; clear ha22 a22
 refine wl_val ha23 rfl rfl rfl (op_assign ha23 rfl rfl) ?_
 intro a24 ha24; clear ha23 a23
 refine wpList_nil ?_
 refine then_n ?_
 refine wp_seq ?_
 refine wp_seq ?_
 refine dr_enter Ext follows_mixed ?_
 intro w25 he26
 have hx27 := hx15.trans' (Stp.of_ext he26 _)
 have hzhx27 := he26.size
 replace hr_s := hr_s.ext pos_shU8 he26
 replace hb13 := hb13.ext he26
 have hs28 : Ext w25 w25 := Ext.rfl' _
 refine dr_val (i := 0) ha24 rfl (by kernel_rfl) (by kernel_rfl) (by kernel_rfl) rfl rfl rfl hs28 (fun w' hw' => op_move ha24 rfl rfl) ?_
 intro a29 ha29; clear ha24 a24
 refine dr_val (i := 1) ha29 rfl (by kernel_rfl) (by kernel_rfl) (by kernel_rfl) rfl rfl rfl hs28 (fun w' hw' => op_nilCheck ha29 rfl rfl) ?_
 intro a30 ha30; clear ha29 a29
 refine dr_val (i := 2) ha30 rfl (by kernel_rfl) (by kernel_rfl) (by kernel_rfl) rfl rfl rfl hs28 (fun w' hw' => op_fieldAddr (sz := 0) ha30 rfl Try.underlying76 rfl rfl ti3 rfl) ?_
 intro a31 ha31; clear ha30 a30
 refine dr_val (i := 3) ha31 rfl (by kernel_rfl) (by kernel_rfl) (by kernel_rfl) rfl rfl rfl hs28 (fun w' hw' => op_loadF (off := 1) ha31 rfl Try.underlying3 rfl rfl (hb13.ext hw').cells rfl) ?_
 intro a32 ha32; clear ha31 a31
 refine dr_val (i := 4) ha32 rfl (by kernel_rfl) (by kernel_rfl) (by kernel_rfl) rfl rfl rfl hs28 (fun w' hw' => op_move ha32 rfl rfl) ?_
 intro a33 ha33; clear ha32 a32
 refine dr_val (i := 5) ha33 rfl (by kernel_rfl) (by kernel_rfl) (by kernel_rfl) rfl rfl rfl hs28 (fun w' hw' => op_nilCheck ha33 rfl rfl) ?_
 intro a34 ha34; clear ha33 a33
 refine dr_val (i := 6) ha34 rfl (by kernel_rfl) (by kernel_rfl) (by kernel_rfl) rfl rfl rfl hs28 (fun w' hw' => op_fieldAddr (sz := 0) ha34 rfl Try.underlying76 rfl rfl ti51 rfl) ?_
 intro a35 ha35; clear ha34 a34
 refine dr_val (i := 7) ha35 rfl (by kernel_rfl) (by kernel_rfl) (by kernel_rfl) rfl rfl rfl hs28 (fun w' hw' => op_loadF (off := 0) ha35 rfl Try.underlying51 rfl rfl (hb13.ext hw').cells rfl) ?_
 intro a36 ha36; clear ha35 a35
 refine dr_val (i := 8) ha36 rfl (by kernel_rfl) (by kernel_rfl) (by kernel_rfl) rfl rfl rfl hs28 (fun w' hw' => op_len_sl ha36 rfl Try.underlying51 rfl hr_s) ?_
 intro a37 ha37; clear ha36 a36
 refine dr_val (i := 9) ha37 rfl (by kernel_rfl) (by kernel_rfl) (by kernel_rfl) rfl rfl rfl hs28 (fun w' hw' => op_lss ha37 rfl rfl rfl) ?_
 intro a38 ha38; clear ha37 a37
 refine dr_end (by kernel_rfl) ?_
 replace hr_s := hr_s.ext pos_shU8 hs28
 replace hb13 := hb13.ext hs28
 refine then_n ?_
 by_cases c39 : ((at_s : Nat) : Int) < ((code_s.length : Nat) : Int)
 ·
  rw [decide_eq_true c39] at ha38
  refine cond_t ha38 rfl ?_
  refine wp_seq ?_
  refine dr_enter Ext follows_mixed ?_
  intro w40 he41
  have hx42 := hx27.trans' (Stp.of_ext he41 _)
  have hzhx42 := he41.size
  replace hr_s := hr_s.ext pos_shU8 he41
  replace hb13 := hb13.ext he41
  have hs43 : Ext w40 w40 := Ext.rfl' _
  refine dr_val (i := 0) ha38 rfl (by kernel_rfl) (by kernel_rfl) (by kernel_rfl) rfl rfl rfl hs43 (fun w' hw' => op_move ha38 rfl rfl) ?_
  intro a44 ha44; clear ha38 a38
  refine dr_val (i := 1) ha44 rfl (by kernel_rfl) (by kernel_rfl) (by kernel_rfl) rfl rfl rfl hs43 (fun w' hw' => op_move ha44 rfl rfl) ?_
  intro a45 ha45; clear ha44 a44
  refine dr_val (i := 2) ha45 rfl (by kernel_rfl) (by kernel_rfl) (by kernel_rfl) rfl rfl rfl hs43 (fun w' hw' => op_nilCheck ha45 rfl rfl) ?_
  intro a46 ha46; clear ha45 a45
  refine dr_val (i := 3) ha46 rfl (by kernel_rfl) (by kernel_rfl) (by kernel_rfl) rfl rfl rfl hs43 (fun w' hw' => op_fieldAddr (sz := 0) ha46 rfl Try.underlying76 rfl rfl ti51 rfl) ?_
  intro a47 ha47; clear ha46 a46
  refine dr_val (i := 4) ha47 rfl (by kernel_rfl) (by kernel_rfl) (by kernel_rfl) rfl rfl rfl hs43 (fun w' hw' => op_loadF (off := 0) ha47 rfl Try.underlying51 rfl rfl (hb13.ext hw').cells rfl) ?_
  intro a48 ha48; clear ha47 a47
  refine dr_val (i := 5) ha48 rfl (by kernel_rfl) (by kernel_rfl) (by kernel_rfl) rfl rfl rfl hs43 (fun w' hw' => op_move ha48 rfl rfl) ?_
  intro a49 ha49; clear ha48 a48
  refine dr_val (i := 6) ha49 rfl (by kernel_rfl) (by kernel_rfl) (by kernel_rfl) rfl rfl rfl hs43 (fun w' hw' => op_nilCheck ha49 rfl rfl) ?_
  intro a50 ha50; clear ha49 a49
  refine dr_val (i := 7) ha50 rfl (by kernel_rfl) (by kernel_rfl) (by kernel_rfl) rfl rfl rfl hs43 (fun w' hw' => op_fieldAddr (sz := 0) ha50 rfl Try.underlying76 rfl rfl ti3 rfl) ?_
  intro a51 ha51; clear ha50 a50
  refine dr_val (i := 8) ha51 rfl (by kernel_rfl) (by kernel_rfl) (by kernel_rfl) rfl rfl rfl hs43 (fun w' hw' => op_loadF (off := 1) ha51 rfl Try.underlying3 rfl rfl (hb13.ext hw').cells rfl) ?_
  intro a52 ha52; clear ha51 a51
  obtain ⟨x53, hx53⟩ := get_ex (xs := code_s) (j := at_s) (by omega)
  obtain ⟨p54, c55, hi56, hc57, hr58, hs59⟩ := Rds.at_ hr_s hx53
  obtain rfl := inv_shU8 hr58
  obtain ⟨_, _⟩ : _ ∧ _ := hs59
  have hltx53 := x53.toNat_lt
  refine dr_val (i := 9) ha52 rfl (by kernel_rfl) (by kernel_rfl) (by kernel_rfl) rfl rfl rfl hs43 (fun w' hw' => op_indexAddr ha52 rfl Try.underlying51 ti5 rfl rfl (by omega) hi56) ?_
  intro a61 ha61; clear ha52 a52
  refine dr_val (i := 10) ha61 rfl (by kernel_rfl) (by kernel_rfl) (by kernel_rfl) rfl rfl rfl hs43 (fun w' hw' => op_loadH ha61 rfl Try.underlying5 rfl rfl (hc57.ext hw') rfl) ?_
  intro a62 ha62; clear ha61 a61
  refine dr_val (i := 11) ha62 rfl (by kernel_rfl) (by kernel_rfl) (by kernel_rfl) rfl rfl rfl hs43 (fun w' hw' => (op_conv_int ha62 rfl Try.underlying5 Try.underlying2 rfl).int (IntWalk.i64_in _ (by omega))) ?_
  intro a63 ha63; clear ha62 a62
  refine dr_val (i := 12) ha63 rfl (by kernel_rfl) (by kernel_rfl) (by kernel_rfl) rfl rfl rfl hs43 (fun w' hw' => (op_add ha63 rfl rfl rfl).int (IntWalk.i64_in _ (by omega))) ?_
  intro a64 ha64; clear ha63 a63
  refine dr_val (i := 13) ha64 rfl (by kernel_rfl) (by kernel_rfl) (by kernel_rfl) rfl rfl rfl hs43 (fun w' hw' => op_assign ha64 rfl rfl) ?_
  intro a65 ha65; clear ha64 a64
  refine dr_end (by kernel_rfl) ?_
  replace hr_s := hr_s.ext pos_shU8 hs43
  replace hb13 := hb13.ext hs43
  replace hc57 := hc57.ext hs43
  refine then_n ?_
  refine wp_region_lit ?_
  refine wl_val ha65 rfl rfl rfl (op_move ha65 rfl rfl) ?_
  intro a66 ha66; clear ha65 a65
  refine wl_val ha66 rfl rfl rfl (op_move ha66 rfl rfl) ?_
  intro a67 ha67; clear ha66 a66
  refine wl_val ha67 rfl rfl rfl (op_nilCheck ha67 rfl rfl) ?_
  intro a68 ha68; clear ha67 a67
  refine wl_val ha68 rfl rfl rfl (op_fieldAddr (sz := 0) ha68 rfl Try.underlying76 rfl rfl ti3 rfl) ?_
  intro a69 ha69; clear ha68 a68
  refine wl_val ha69 rfl rfl rfl (op_loadF (off := 1) ha69 rfl Try.underlying3 rfl rfl hb13.cells rfl) ?_
  intro a70 ha70; clear ha69 a69
  refine wl_val ha70 rfl rfl rfl ((op_add ha70 rfl rfl rfl).int (IntWalk.i64_in _ (by omega))) ?_
  intro a71 ha71; clear ha70 a70
  refine wl_val ha71 rfl rfl rfl (op_nilCheck ha71 rfl rfl) ?_
  intro a72 ha72; clear ha71 a71
  refine wl_val ha72 rfl rfl rfl (op_fieldAddr (sz := 0) ha72 rfl Try.underlying76 rfl rfl ti3 rfl) ?_
  intro a73 ha73; clear ha72 a72
  refine wl_effS ha73 rfl rfl (op_store' (off := 1) ha73 rfl ti3 rfl rfl hb13 rfl rfl (by simp [Value.oneCell']) (Nat.le_of_ble_eq_true rfl)) ?_
  rintro w74 ⟨hb76, hst75, hz77⟩
  have hx78 := hx42.trans' hst75
  have hzhx78 := hst75.size
  replace hr_s := hr_s.stp pos_shU8 hst75 (by intro q hq; cases hq; exact not_iv (by omega))
  replace hc57 := hc57.stp hst75 (by intro q hq; cases hq; omega)
  clear hb13
  refine wpList_nil ?_
  refine then_n ?_
  refine wp_seq ?_
  refine wp_region_lit ?_
  refine wl_val ha73 rfl rfl rfl (op_move ha73 rfl rfl) ?_
  intro a79 ha79; clear ha73 a73
  refine wl_val ha79 rfl rfl rfl (op_move ha79 rfl rfl) ?_
  intro a80 ha80; clear ha79 a79
  refine wl_val ha80 rfl rfl rfl ((op_rem ha80 rfl rfl rfl (by omega)).int (Int.tmod_eq_emod_of_nonneg (by omega))) ?_
  intro a81 ha81; clear ha80 a80
  refine wl_val ha81 rfl rfl rfl (op_assign ha81 rfl rfl) ?_
  intro a82 ha82; clear ha81 a81
  refine wpList_nil ?_
  refine then_n ?_
  refine wp_ret ?_
  refine ret1 ha82 rfl rfl ?_
  clear ha82 a82
  have hSr : Dice w74 g_s b_s 76 := ⟨by omega, _, _, (at_s + 1), (IntKind.u64.wrap ((IntKind.u64.wrap (seed_s * (6364136223846793005 : Int))) + (1442695040888963407 : Int))), hb76, hr_s, by omega, by omega, by omega⟩
  refine ret_mkS hx78 ⟨hSr, ?_⟩
  refine ⟨(((andU (Int.fdiv (IntKind.u64.wrap ((IntKind.u64.wrap (seed_s * (6364136223846793005 : Int))) + (1442695040888963407 : Int))) (2 ^ (min ((33 : Int)).toNat 64))) (16777215 : Int)) + (x53.toNat : Int)) % n), (by exact Int.emod_nonneg _ (by omega)), (by exact Int.emod_lt_of_pos _ (by omega)), ?_⟩
  exact (int_eq (by rfl))
 ·
  rw [decide_eq_false c39] at ha38
  refine cond_f ha38 rfl ?_
  refine wp_skip ?_
  refine then_n ?_
  refine wp_seq ?_
  refine wp_region_lit ?_
  refine wl_val ha38 rfl rfl rfl (op_move ha38 rfl rfl) ?_
  intro a83 ha83; clear ha38 a38
  refine wl_val ha83 rfl rfl rfl (op_move ha83 rfl rfl) ?_
  intro a84 ha84; clear ha83 a83
  refine wl_val ha84 rfl rfl rfl ((op_rem ha84 rfl rfl rfl (by omega)).int (Int.tmod_eq_emod_of_nonneg (by omega))) ?_
  intro a85 ha85; clear ha84 a84
  refine wl_val ha85 rfl rfl rfl (op_assign ha85 rfl rfl) ?_
  intro a86 ha86; clear ha85 a85
  refine wpList_nil ?_
  refine then_n ?_
  refine wp_ret ?_
  refine ret1 ha86 rfl rfl ?_
  clear ha86 a86
  have hSr : Dice w25 g_s b_s 76 := ⟨by omega, _, _, at_s, (IntKind.u64.wrap ((IntKind.u64.wrap (seed_s * (6364136223846793005 : Int))) + (1442695040888963407 : Int))), hb13, hr_s, by omega, by omega, by omega⟩
  refine ret_mkS hx27 ⟨hSr, ?_⟩
  refine ⟨((andU (Int.fdiv (IntKind.u64.wrap ((IntKind.u64.wrap (seed_s * (6364136223846793005 : Int))) + (1442695040888963407 : Int))) (2 ^ (min ((33 : Int)).toNat 64))) (16777215 : Int)) % n), (by exact Int.emod_nonneg _ (by omega)), (by exact Int.emod_lt_of_pos _ (by omega)), ?_⟩
  exact (int_eq (by rfl))


end Go.Proofs.Ytkdnclpgijkceaa
