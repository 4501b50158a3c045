/- Day books drawn, rarely others. -/
import Derived.Test.YtocedhbefdaefaaR2
namespace Go.Proofs.Ytocedhbefdaefaa
open Go Go.RowKit

set_option maxHeartbeats 8000000 in
theorem c_spec_l33Draw (w0 : World) (g_s b_s : Nat) (h_s : Src w0 g_s b_s 81) :
  Calls Try.prog 71 #[.pointer (some (⟨g_s, 0, none⟩ : Addr))] w0 (RetS w0 (some g_s) (fun v w1 => Src w1 g_s b_s 81 ∧ (fun v w1 => ∃ (l : List Ent), (l.length ≤ 61) ∧ (fun v w1 => Own shEnt 41 w0.heap.size w0.heap.size w1.heap.size w1 v (l)) v w1) v w1)) := by
 refine enter (N := 37) Try.func71 rfl rfl rfl ?_
 intro a0 ha0
 have hx0 := Stp.rfl' w0 (some g_s)
 have hgl_s := h_s.lt
 refine wp_seq ?_
 refine wp_region_lit ?_
 refine wl_val ha0 rfl rfl rfl (op_assign ha0 rfl rfl) ?_
 intro a1 ha1; clear ha0 a0
 refine wpList_nil ?_
 refine then_n ?_
 refine wp_seq ?_
 refine wp_region_lit ?_
 refine wl_val ha1 rfl rfl rfl (op_move ha1 rfl rfl) ?_
 intro a2 ha2; clear ha1 a1
 refine wl_callS ha2 rfl rfl rfl (op_call ha2 rfl cb77 rfl) (c_spec_l33Good _ g_s b_s h_s) ?_
 rintro v3 w4 he5 ⟨hS6, ⟨q7, hq8, ho9⟩⟩ a10 ha10; clear ha2 a2
 have hx11 := hx0.trans' he5
 have hzhx11 := he5.size
 have hSlhS6 := hS6.lt
 have hvl := dbB_len hq8
 refine wl_val ha10 rfl rfl rfl (op_assign ha10 rfl rfl) ?_
 intro a12 ha12; clear ha10 a10
 refine wpList_nil ?_
 refine then_n ?_
 refine wp_seq ?_
 refine wp_seq ?_
 refine wp_region_lit ?_
 refine wl_val ha12 rfl rfl rfl (op_move ha12 rfl rfl) ?_
 intro a13 ha13; clear ha12 a12
 refine wl_callS ha13 rfl rfl rfl (op_call ha13 rfl cb73 rfl) (c_spec_l01Next _ g_s b_s (40 : Int) hS6) ?_
 rintro v14 w15 he16 ⟨hS17, ⟨q18, hq19, hq20, hq21, rfl⟩⟩ a22 ha22; clear ha13 a13
 have hx23 := hx11.trans' he16
 have hzhx23 := he16.size
 first | replace ho9 := ho9.stp he16 (by intro q hq; cases hq; omega) | replace ho9 := ho9.stpF flat_shEnt he16 (by intro q hq; cases hq; exact ho9.ne_box (by assumption) rfl)
 clear hS6
 have hSlhS17 := hS17.lt
 refine wpList_nil ?_
 refine then_n ?_
 refine wp_block ?_
 refine wp_seq ?_
 refine wp_region_lit ?_
 refine wl_val ha22 rfl rfl rfl (op_eql ha22 rfl rfl rfl) ?_
 intro a24 ha24; clear ha22 a22
 refine wl_val ha24 rfl rfl rfl (op_assign ha24 rfl rfl) ?_
 intro a25 ha25; clear ha24 a24
 refine wpList_nil ?_
 refine then_n ?_
 by_cases c26 : (q18 : Int) = (0 : Int)
 ·
  rw [decide_eq_true c26] at ha25
  refine cond_t ha25 rfl ?_
  refine wp_region_lit ?_
  refine wl_val ha25 rfl rfl rfl (op_move ha25 rfl rfl) ?_
  intro a27 ha27; clear ha25 a25
  refine wl_val ha27 rfl rfl rfl (op_move ha27 rfl rfl) ?_
  intro a28 ha28; clear ha27 a27
  refine wl_eff ha28 rfl rfl rfl (op_buildSlice (s := shI64) (xs := [(5 : Int), (100 : Int), (100000 : Int), (100001 : Int)]) (cs := [.int .i64 (5 : Int), .int .i64 (100 : Int), .int .i64 (100000 : Int), .int .i64 (100001 : Int)]) (vs := [(0, .int .i64 (5 : Int)), (1, .int .i64 (100 : Int)), (2, .int .i64 (100000 : Int)), (3, .int .i64 (100001 : Int))]) (S := fun _ => False) (le := w15.heap.size) ha28 rfl pos_shI64 Try.underlying45 ti2 rfl rfl (by decide) (by kernel_rfl) ⟨mk_shI64 ((5 : Int)) (by first | assumption | omega | (constructor <;> omega) | (dsimp only; omega) | (simp; done) | (simp; omega)), mk_shI64 ((100 : Int)) (by first | assumption | omega | (constructor <;> omega) | (dsimp only; omega) | (simp; done) | (simp; omega)), mk_shI64 ((100000 : Int)) (by first | assumption | omega | (constructor <;> omega) | (dsimp only; omega) | (simp; done) | (simp; omega)), mk_shI64 ((100001 : Int)) (by first | assumption | omega | (constructor <;> omega) | (dsimp only; omega) | (simp; done) | (simp; omega)), rfl⟩ (fun _ h => h.elim)) ?_
  rintro v29 w30 ⟨ho31, he32, hob33⟩ a34 ha34; clear ha28 a28
  have hx35 := hx23.trans' (Stp.of_ext he32 _)
  have hzhx35 := he32.size
  replace ho9 := ho9.ext he32
  replace hS17 := hS17.ext he32
  refine wl_callS ha34 rfl rfl rfl (op_call ha34 rfl cb72 rfl) (c_spec_l01Pick _ g_s b_s v29 ([(5 : Int), (100 : Int), (100000 : Int), (100001 : Int)]) hS17 (ho31.rds pos_shI64) (by rintro ⟨_, _⟩; omega) (by first | assumption | omega | (constructor <;> omega) | (dsimp only; omega) | (simp; done) | (simp; omega))) ?_
  rintro v36 w37 he38 ⟨hS39, ⟨q40, hq41, rfl⟩⟩ a42 ha42; clear ha34 a34
  have hx43 := hx35.trans' he38
  have hzhx43 := he38.size
  first | replace ho9 := ho9.stp he38 (by intro q hq; cases hq; omega) | replace ho9 := ho9.stpF flat_shEnt he38 (by intro q hq; cases hq; exact ho9.ne_box (by assumption) rfl)
  first | replace ho31 := ho31.stp he38 (by intro q hq; cases hq; omega) | replace ho31 := ho31.stpF flat_shI64 he38 (by intro q hq; cases hq; exact ho31.ne_box (by assumption) rfl)
  clear hS17
  have hSlhS39 := hS39.lt
  simp only [List.mem_cons, List.not_mem_nil, or_false] at hq41
  refine wl_val ha42 rfl rfl rfl (op_move ha42 rfl rfl) ?_
  intro a44 ha44; clear ha42 a42
  refine wl_callS ha44 rfl rfl rfl (op_call ha44 rfl cb73 rfl) (c_spec_l01Next _ g_s b_s (5 : Int) hS39) ?_
  rintro v45 w46 he47 ⟨hS48, ⟨q49, hq50, hq51, hq52, rfl⟩⟩ a53 ha53; clear ha44 a44
  have hx54 := hx43.trans' he47
  have hzhx54 := he47.size
  first | replace ho9 := ho9.stp he47 (by intro q hq; cases hq; omega) | replace ho9 := ho9.stpF flat_shEnt he47 (by intro q hq; cases hq; exact ho9.ne_box (by assumption) rfl)
  first | replace ho31 := ho31.stp he47 (by intro q hq; cases hq; omega) | replace ho31 := ho31.stpF flat_shI64 he47 (by intro q hq; cases hq; exact ho31.ne_box (by assumption) rfl)
  clear hS39
  have hSlhS48 := hS48.lt
  refine wl_val ha53 rfl rfl rfl (op_move ha53 rfl rfl) ?_
  intro a55 ha55; clear ha53 a53
  refine wl_callS ha55 rfl rfl rfl (op_call ha55 rfl cb78 rfl) (c_spec_l01DrawWord _ g_s b_s hS48) ?_
  rintro v56 w57 he58 ⟨hS59, ⟨q60, hq61, rfl⟩⟩ a62 ha62; clear ha55 a55
  have hx63 := hx54.trans' he58
  have hzhx63 := he58.size
  first | replace ho9 := ho9.stp he58 (by intro q hq; cases hq; omega) | replace ho9 := ho9.stpF flat_shEnt he58 (by intro q hq; cases hq; exact ho9.ne_box (by assumption) rfl)
  first | replace ho31 := ho31.stp he58 (by intro q hq; cases hq; omega) | replace ho31 := ho31.stpF flat_shI64 he58 (by intro q hq; cases hq; exact ho31.ne_box (by assumption) rfl)
  clear hS48
  have hSlhS59 := hS59.lt
  refine wl_val ha62 rfl rfl rfl (op_move ha62 rfl rfl) ?_
  intro a64 ha64; clear ha62 a62
  refine wl_eff ha64 rfl rfl rfl (op_buildSlice (s := shI64) (xs := [(0 : Int), (1 : Int), (10000000 : Int), (10000001 : Int)]) (cs := [.int .i64 (0 : Int), .int .i64 (1 : Int), .int .i64 (10000000 : Int), .int .i64 (10000001 : Int)]) (vs := [(0, .int .i64 (0 : Int)), (1, .int .i64 (1 : Int)), (2, .int .i64 (10000000 : Int)), (3, .int .i64 (10000001 : Int))]) (S := fun _ => False) (le := w57.heap.size) ha64 rfl pos_shI64 Try.underlying45 ti2 rfl rfl (by decide) (by kernel_rfl) ⟨mk_shI64 ((0 : Int)) (by first | assumption | omega | (constructor <;> omega) | (dsimp only; omega) | (simp; done) | (simp; omega)), mk_shI64 ((1 : Int)) (by first | assumption | omega | (constructor <;> omega) | (dsimp only; omega) | (simp; done) | (simp; omega)), mk_shI64 ((10000000 : Int)) (by first | assumption | omega | (constructor <;> omega) | (dsimp only; omega) | (simp; done) | (simp; omega)), mk_shI64 ((10000001 : Int)) (by first | assumption | omega | (constructor <;> omega) | (dsimp only; omega) | (simp; done) | (simp; omega)), rfl⟩ (fun _ h => h.elim)) ?_
  rintro v65 w66 ⟨ho67, he68, hob69⟩ a70 ha70; clear ha64 a64
  have hx71 := hx63.trans' (Stp.of_ext he68 _)
  have hzhx71 := he68.size
  replace ho9 := ho9.ext he68
  replace ho31 := ho31.ext he68
  replace hS59 := hS59.ext he68
  refine wl_callS ha70 rfl rfl rfl (op_call ha70 rfl cb72 rfl) (c_spec_l01Pick _ g_s b_s v65 ([(0 : Int), (1 : Int), (10000000 : Int), (10000001 : Int)]) hS59 (ho67.rds pos_shI64) (by rintro ⟨_, _⟩; omega) (by first | assumption | omega | (constructor <;> omega) | (dsimp only; omega) | (simp; done) | (simp; omega))) ?_
  rintro v72 w73 he74 ⟨hS75, ⟨q76, hq77, rfl⟩⟩ a78 ha78; clear ha70 a70
  have hx79 := hx71.trans' he74
  have hzhx79 := he74.size
  first | replace ho9 := ho9.stp he74 (by intro q hq; cases hq; omega) | replace ho9 := ho9.stpF flat_shEnt he74 (by intro q hq; cases hq; exact ho9.ne_box (by assumption) rfl)
  first | replace ho31 := ho31.stp he74 (by intro q hq; cases hq; omega) | replace ho31 := ho31.stpF flat_shI64 he74 (by intro q hq; cases hq; exact ho31.ne_box (by assumption) rfl)
  first | replace ho67 := ho67.stp he74 (by intro q hq; cases hq; omega) | replace ho67 := ho67.stpF flat_shI64 he74 (by intro q hq; cases hq; exact ho67.ne_box (by assumption) rfl)
  clear hS59
  have hSlhS75 := hS75.lt
  simp only [List.mem_cons, List.not_mem_nil, or_false] at hq77
  refine wl_val ha78 rfl rfl rfl (op_build (vs := [(0, .int .i64 (q40 : Int)), (1, .int .i64 (q49 : Int)), (2, St ((q60))), (3, .int .i64 (q76 : Int))]) (cs := #[.int .i64 (q40 : Int), .int .i64 (q49 : Int), St ((q60)), .int .i64 (q76 : Int)]) ha78 rfl Try.underlying41 ti41 bp41 rfl rfl) ?_
  intro a80 ha80; clear ha78 a78
  refine wl_eff ha80 rfl rfl rfl (op_buildSlice (s := shEnt) (xs := [((q40 : Int), (q49 : Int), (q60), (q76 : Int))]) (cs := [.int .i64 (q40 : Int), .int .i64 (q49 : Int), St ((q60)), .int .i64 (q76 : Int)]) (vs := [(0, .agg #[.int .i64 (q40 : Int), .int .i64 (q49 : Int), St ((q60)), .int .i64 (q76 : Int)])]) (S := fun _ => False) (le := w73.heap.size) ha80 rfl pos_shEnt Try.underlying25 ti41 rfl rfl (by decide) (by kernel_rfl) (Els.single (mk_shEnt (((q40 : Int), (q49 : Int), (q60), (q76 : Int))) (by first | assumption | omega | (constructor <;> omega) | (dsimp only; omega) | (simp; done) | (simp; omega)) (by first | assumption | omega | (constructor <;> omega) | (dsimp only; omega) | (simp; done) | (simp; omega)) (by first | assumption | omega | (constructor <;> omega) | (dsimp only; omega) | (simp; done) | (simp; omega)) (by first | assumption | omega | (constructor <;> omega) | (dsimp only; omega) | (simp; done) | (simp; omega)))) (fun _ h => h.elim)) ?_
  rintro v81 w82 ⟨ho83, he84, hob85⟩ a86 ha86; clear ha80 a80
  have hx87 := hx79.trans' (Stp.of_ext he84 _)
  have hzhx87 := he84.size
  replace ho9 := ho9.ext he84
  replace ho31 := ho31.ext he84
  replace ho67 := ho67.ext he84
  replace hS75 := hS75.ext he84
  refine wl_eff ha86 rfl rfl rfl (op_append (ts := #[]) (s := shEnt) ha86 rfl Try.underlying25 ti41 rfl pos_shEnt rfl rfl ho9 (ho83.rds pos_shEnt) (by omega) (by omega) (by first | omega | (simp; omega)) (by first | omega | (simp; omega)) (.inl flat_shEnt)) ?_
  rintro v88 w89 ⟨ho90, hst91, hob92⟩ a93 ha93; clear ha86 a86
  have hx94 := hx87.fresh hst91 (by intro q hq; have hq0 := ho9.lt q hq; omega)
  have hzhx94 := hst91.size
  replace ho31 := ho31.stp hst91 (by intro q hq; have hq0 := ho9.lt q hq; omega)
  replace ho67 := ho67.stp hst91 (by intro q hq; have hq0 := ho9.lt q hq; omega)
  replace hS75 := hS75.stp hst91 (by intro q hq; have hq0 := ho9.lt q hq; omega)
  replace ho83 := ho83.stp hst91 (by intro q hq; have hq0 := ho9.lt q hq; omega)
  have hsp95 : ∀ q, Value.ownBlock v88 = some q → Value.ownBlock v81 ≠ some q := by intro q hq hb; have hq0 := ho83.lt q hb; rcases hob92 with h | h; (rw [h] at hq; first | (have hq1 := ho9.lt q hq; omega)); (rw [h] at hq; cases hq; omega)
  refine wl_val ha93 rfl rfl rfl (op_assign ha93 rfl rfl) ?_
  intro a96 ha96; clear ha93 a93
  refine wpList_nil ?_
  refine block_n ?_
  refine then_n ?_
  refine wp_seq ?_
  refine wp_region_lit ?_
  refine wl_val ha96 rfl rfl rfl (op_move ha96 rfl rfl) ?_
  intro a97 ha97; clear ha96 a96
  refine wl_val ha97 rfl rfl rfl (op_assign ha97 rfl rfl) ?_
  intro a98 ha98; clear ha97 a97
  refine wpList_nil ?_
  refine then_n ?_
  refine wp_ret ?_
  refine ret1 ha98 rfl rfl ?_
  clear ha98 a98
  refine ret_mkS hx94 ⟨hS75, ?_⟩
  refine ⟨((((q7) ++ [((q40 : Int), (q49 : Int), (q60), (q76 : Int))])) : List Ent), (by first | omega | (simp; done) | (simp; omega)), ?_⟩
  refine (ho90.fin (by omega) (by omega) (by omega)).cast ?_
  rfl
 ·
  rw [decide_eq_false c26] at ha25
  refine cond_f ha25 rfl ?_
  refine wp_seq ?_
  refine wp_region_lit ?_
  refine wl_val ha25 rfl rfl rfl (op_eql ha25 rfl rfl rfl) ?_
  intro a99 ha99; clear ha25 a25
  refine wl_val ha99 rfl rfl rfl (op_assign ha99 rfl rfl) ?_
  intro a100 ha100; clear ha99 a99
  refine wpList_nil ?_
  refine then_n ?_
  by_cases c101 : (q18 : Int) = (1 : Int)
  ·
   rw [decide_eq_true c101] at ha100
   refine cond_t ha100 rfl ?_
   refine wp_block ?_
   refine loop_inv (X := Value × (List Ent)) (fun (⟨v, xs⟩ : Value × (List Ent)) fr wl => Sl 37 fr [(0, .pointer (some (⟨g_s, 0, none⟩ : Addr))), (3, v)] ∧ Stp w0 wl (some g_s) ∧ Src wl g_s b_s 81 ∧ Own shEnt 41 w0.heap.size w0.heap.size wl.heap.size wl v xs ∧ w15.heap.size ≤ wl.heap.size ∧ (xs.length ≤ 61)) (fun (⟨v, xs⟩ : Value × (List Ent)) => 61 - xs.length) (v3, (q7)) ?_ ?_
   ·
    exact ⟨(Sl.cons_ ha100 rfl rfl (Sl.cons_ ha100 rfl rfl (Sl.nil_ ha100))), hx23, hS17, (ho9.fin (by omega) (by omega) (by omega)), (by omega), (by omega)⟩
   ·
    clear ha100 a100
    rintro ⟨v, xs⟩ a106 w102 ⟨ha106, hx103, hf104, hf105, hzl107, hl⟩
    have hzhx103 := hx103.size
    have hgl108 := hf104.lt
    refine wp_seq ?_
    refine wp_seq ?_
    refine wp_region_lit ?_
    refine wl_val ha106 rfl rfl rfl (op_move ha106 rfl rfl) ?_
    intro a109 ha109; clear ha106 a106
    refine wl_val ha109 rfl rfl rfl (op_len_sl ha109 rfl Try.underlying25 rfl (hf105.rds pos_shEnt)) ?_
    intro a110 ha110; clear ha109 a109
    refine wl_val ha110 rfl rfl rfl (op_move ha110 rfl rfl) ?_
    intro a111 ha111; clear ha110 a110
    refine wl_callS ha111 rfl rfl rfl (op_call ha111 rfl cb73 rfl) (c_spec_l01Next _ g_s b_s (2 : Int) hf104) ?_
    rintro v112 w113 he114 ⟨hS115, ⟨q116, hq117, hq118, hq119, rfl⟩⟩ a120 ha120; clear ha111 a111
    have hx121 := hx103.trans' he114
    have hzhx121 := he114.size
    first | replace hf105 := hf105.stp he114 (by intro q hq; cases hq; omega) | replace hf105 := hf105.stpF flat_shEnt he114 (by intro q hq; cases hq; exact hf105.ne_box (by assumption) rfl)
    clear hf104
    have hSlhS115 := hS115.lt
    refine wl_val ha120 rfl rfl rfl ((op_add ha120 rfl rfl rfl).int (IntWalk.i64_in _ (by omega))) ?_
    intro a122 ha122; clear ha120 a120
    refine wl_val ha122 rfl rfl rfl (op_lss ha122 rfl rfl rfl) ?_
    intro a123 ha123; clear ha122 a122
    refine wpList_nil ?_
    refine then_n ?_
    by_cases c124 : ((xs.length : Nat) : Int) < ((60 : Int) + (q116 : Int))
    ·
     rw [decide_eq_true c124] at ha123
     refine cond_t ha123 rfl ?_
     refine wp_skip ?_
     refine then_n ?_
     refine wp_block ?_
     refine wp_region_lit ?_
     refine wl_val ha123 rfl rfl rfl (op_move ha123 rfl rfl) ?_
     intro a125 ha125; clear ha123 a123
     refine wl_val ha125 rfl rfl rfl (op_build (vs := [(0, .int .i64 (90 : Int)), (2, St (([100, 101, 101] : Str))), (3, .int .i64 (5 : Int))]) (cs := #[.int .i64 (90 : Int), .int .i64 (0 : Int), St (([100, 101, 101] : Str)), .int .i64 (5 : Int)]) ha125 rfl Try.underlying41 ti41 bp41 rfl rfl) ?_
     intro a126 ha126; clear ha125 a125
     refine wl_eff ha126 rfl rfl rfl (op_buildSlice (s := shEnt) (xs := [((90 : Int), (0 : Int), ([100, 101, 101] : Str), (5 : Int))]) (cs := [.int .i64 (90 : Int), .int .i64 (0 : Int), St (([100, 101, 101] : Str)), .int .i64 (5 : Int)]) (vs := [(0, .agg #[.int .i64 (90 : Int), .int .i64 (0 : Int), St (([100, 101, 101] : Str)), .int .i64 (5 : Int)])]) (S := fun _ => False) (le := w113.heap.size) ha126 rfl pos_shEnt Try.underlying25 ti41 rfl rfl (by decide) (by kernel_rfl) (Els.single (mk_shEnt (((90 : Int), (0 : Int), ([100, 101, 101] : Str), (5 : Int))) (by first | assumption | omega | (constructor <;> omega) | (dsimp only; omega) | (simp; done) | (simp; omega)) (by first | assumption | omega | (constructor <;> omega) | (dsimp only; omega) | (simp; done) | (simp; omega)) (by first | assumption | omega | (constructor <;> omega) | (dsimp only; omega) | (simp; done) | (simp; omega)) (by first | assumption | omega | (constructor <;> omega) | (dsimp only; omega) | (simp; done) | (simp; omega)))) (fun _ h => h.elim)) ?_
     rintro v127 w128 ⟨ho129, he130, hob131⟩ a132 ha132; clear ha126 a126
     have hx133 := hx121.trans' (Stp.of_ext he130 _)
     have hzhx133 := he130.size
     replace hf105 := hf105.ext he130
     replace hS115 := hS115.ext he130
     refine wl_eff ha132 rfl rfl rfl (op_append (ts := #[]) (s := shEnt) ha132 rfl Try.underlying25 ti41 rfl pos_shEnt rfl rfl hf105 (ho129.rds pos_shEnt) (by omega) (by omega) (by first | omega | (simp; omega)) (by first | omega | (simp; omega)) (.inl flat_shEnt)) ?_
     rintro v134 w135 ⟨ho136, hst137, hob138⟩ a139 ha139; clear ha132 a132
     have hx140 := hx133.fresh hst137 (by intro q hq; have hq0 := hf105.lt q hq; omega)
     have hzhx140 := hst137.size
     replace hS115 := hS115.stp hst137 (by intro q hq; have hq0 := hf105.lt q hq; omega)
     replace ho129 := ho129.stp hst137 (by intro q hq; have hq0 := hf105.lt q hq; omega)
     have hsp141 : ∀ q, Value.ownBlock v134 = some q → Value.ownBlock v127 ≠ some q := by intro q hq hb; have hq0 := ho129.lt q hb; rcases hob138 with h | h; (rw [h] at hq; first | (have hq1 := hf105.lt q hq; omega)); (rw [h] at hq; cases hq; omega)
     refine wl_val ha139 rfl rfl rfl (op_assign ha139 rfl rfl) ?_
     intro a142 ha142; clear ha139 a139
     refine wpList_nil ?_
     refine block_n ?_
     refine round_end (x := (v, xs)) (v134, (xs ++ [((90 : Int), (0 : Int), ([100, 101, 101] : Str), (5 : Int))])) ?_ ?_
     ·
      refine ⟨(Sl.cons_ ha142 rfl rfl (Sl.cons_ ha142 rfl rfl (Sl.nil_ ha142))), hx140, hS115, (ho136.fin (by omega) (by omega) (by omega)), (by omega), (by first | omega | (simp; omega))⟩
     ·show (61 - ((xs ++ [((90 : Int), (0 : Int), ([100, 101, 101] : Str), (5 : Int))])).length : Nat) < 61 - xs.length; simp only [List.length_append, List.length_cons, List.length_nil]; omega
    ·
     rw [decide_eq_false c124] at ha123
     refine cond_f ha123 rfl ?_
     refine wp_exit ?_
     refine then_e ?_
     refine then_e ?_
     refine block_hit ?_
     refine block_n ?_
     refine then_n ?_
     refine wp_seq ?_
     refine wp_region_lit ?_
     refine wl_val ha123 rfl rfl rfl (op_move ha123 rfl rfl) ?_
     intro a143 ha143; clear ha123 a123
     refine wl_val ha143 rfl rfl rfl (op_assign ha143 rfl rfl) ?_
     intro a144 ha144; clear ha143 a143
     refine wpList_nil ?_
     refine then_n ?_
     refine wp_ret ?_
     refine ret1 ha144 rfl rfl ?_
     clear ha144 a144
     refine ret_mkS hx121 ⟨hS115, ?_⟩
     refine ⟨((xs) : List Ent), (by first | omega | (simp; done) | (simp; omega)), ?_⟩
     refine (hf105.fin (by omega) (by omega) (by omega)).cast ?_
     rfl
  ·
   rw [decide_eq_false c101] at ha100
   refine cond_f ha100 rfl ?_
   refine wp_skip ?_
   refine block_n ?_
   refine then_n ?_
   refine wp_seq ?_
   refine wp_region_lit ?_
   refine wl_val ha100 rfl rfl rfl (op_move ha100 rfl rfl) ?_
   intro a145 ha145; clear ha100 a100
   refine wl_val ha145 rfl rfl rfl (op_assign ha145 rfl rfl) ?_
   intro a146 ha146; clear ha145 a145
   refine wpList_nil ?_
   refine then_n ?_
   refine wp_ret ?_
   refine ret1 ha146 rfl rfl ?_
   clear ha146 a146
   refine ret_mkS hx23 ⟨hS17, ?_⟩
   refine ⟨(((q7)) : List Ent), (by first | omega | (simp; done) | (simp; omega)), ?_⟩
   refine (ho9.fin (by omega) (by omega) (by omega)).cast ?_
   rfl


end Go.Proofs.Ytocedhbefdaefaa
