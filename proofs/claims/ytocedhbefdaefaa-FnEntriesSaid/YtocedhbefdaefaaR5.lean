/- Day books and entries drawn. -/
import Derived.Test.YtocedhbefdaefaaR3
namespace Go.Proofs.Ytocedhbefdaefaa
open Go Go.RowKit

set_option maxHeartbeats 8000000 in
theorem c_spec_DrawAddEntry (w0 : World) (v_code : Value) (code : List UInt8) {S_code : Nat → Prop} (h_code : Rds shU8 S_code w0 v_code code) :
  Calls Try.prog 50 #[v_code] w0 (Ret w0 (fun v w1 => ∃ (l : List Ent) (e : Ent), (l.length ≤ 61) ∧ (I64 e.1) ∧ (I64 e.2.1) ∧ (e.2.2.1.length ≤ 17) ∧ (I64 e.2.2.2) ∧ (fun v w1 => ∃ r0, v = .tuple #[r0, .agg #[.int .i64 ((e)).1, .int .i64 ((e)).2.1, St (((e)).2.2.1), .int .i64 ((e)).2.2.2]] ∧ Own shEnt 41 w0.heap.size w0.heap.size w1.heap.size w1 r0 (l)) v w1)) := by
 refine enter (N := 40) Try.func50 rfl rfl rfl ?_
 intro a0 ha0
 have hx0 := Ext.rfl' w0
 have hl_code := h_code.length_le
 refine wp_seq ?_
 refine wp_region_lit ?_
 refine wl_val ha0 rfl rfl rfl (op_assign ha0 rfl rfl) ?_
 intro a1 ha1; clear ha0 a0
 refine wl_eff ha1 rfl rfl rfl (op_alloc' rfl ti41 rfl) ?_
 rintro _ w3 ⟨rfl, he4, hb5, hz6⟩ a7 ha7; clear ha1 a1
 have hx8 := hx0.trans' he4
 have hzhx8 := he4.size
 refine wpList_nil ?_
 refine then_n ?_
 refine wp_seq ?_
 refine wp_region_lit ?_
 refine wl_val ha7 rfl rfl rfl (op_move ha7 rfl rfl) ?_
 intro a9 ha9; clear ha7 a7
 refine wl_callR ha9 rfl rfl rfl (op_call ha9 rfl cb70 rfl) (c_spec_l01From _ v_code code (h_code.low pos_shU8 hx8 (Nat.le_refl _)) (by omega)) ?_
 rintro v10 w11 he12 ⟨g13, rfl, hg14, hS15⟩ a16 ha16; clear ha9 a9
 have hx17 := hx8.trans' he12
 have hzhx17 := he12.size
 replace hb5 := hb5.ext he12
 have hSlhS15 := hS15.lt
 refine wl_val ha16 rfl rfl rfl (op_assign ha16 rfl rfl) ?_
 intro a18 ha18; clear ha16 a16
 refine wpList_nil ?_
 refine then_n ?_
 refine wp_seq ?_
 refine wp_region_lit ?_
 refine wl_val ha18 rfl rfl rfl (op_move ha18 rfl rfl) ?_
 intro a19 ha19; clear ha18 a18
 refine wl_callS ha19 rfl rfl rfl (op_call ha19 rfl cb71 rfl) (c_spec_l33Draw _ g13 w0.heap.size hS15) ?_
 rintro v20 w21 he22 ⟨hS23, ⟨q24, hq25, ho26⟩⟩ a27 ha27; clear ha19 a19
 have hx28 := hx17.stp he22 (by intro q hq; cases hq; exact (by omega))
 have hzhx28 := he22.size
 replace hb5 := hb5.stp he22 (by intro q hq; cases hq; omega)
 clear hS15
 have hSlhS23 := hS23.lt
 refine wl_val ha27 rfl rfl rfl (op_assign ha27 rfl rfl) ?_
 intro a29 ha29; clear ha27 a27
 refine wpList_nil ?_
 refine then_n ?_
 refine seq_mid (fun fr wl => ∃ (g30 : Nat) (q31 : Int) (q32 : Int) (q33 : Str) (q34 : Int), Sl 40 fr [(3, .pointer (some (⟨w0.heap.size, 0, none⟩ : Addr))), (4, .pointer (some (⟨g13, 0, none⟩ : Addr))), (5, v20), (6, .pointer (some (⟨g30, 0, none⟩ : Addr)))] ∧ Ext w0 wl ∧ Box wl w0.heap.size 41 [.int .i64 (0 : Int), .int .i64 (0 : Int), St (([] : Str)), .int .i64 (0 : Int)] ∧ Src wl g13 w0.heap.size 81 ∧ Own shEnt 41 w11.heap.size w11.heap.size w21.heap.size wl v20 ((q24)) ∧ Box wl g30 41 [.int .i64 (q31 : Int), .int .i64 (q32 : Int), St q33, .int .i64 ((100 : Int) * ((1 : Int) + (q34 : Int)))] ∧ w21.heap.size ≤ g30 ∧ (0 : Int) ≤ q31 ∧ q31 ≤ (100 : Int) ∧ (0 : Int) ≤ q32 ∧ q32 ≤ (100 : Int) ∧ q33.length ≤ 17 ∧ (0 : Int) ≤ q34 ∧ q34 ≤ (100 : Int) ∧ w21.heap.size ≤ wl.heap.size) ?_ ?_
 ·
  refine dr_enter (fun wa_ wb_ => Stp wa_ wb_ (some g13)) follows_mixed ?_
  intro w41 he42
  have hx43 := hx28.trans' he42
  have hzhx43 := he42.size
  replace hb5 := hb5.ext he42
  replace hS23 := hS23.ext he42
  replace ho26 := ho26.ext he42
  have hs44 : Ext w41 w41 := Ext.rfl' _
  refine dr_share (fun fr wl S => ∃ (g45 : Nat) (q46 : Int) (q47 : Int) (q48 : Str) (q49 : Int), S = (fun w' => StpL wl w' (fun i => i = g13 ∨ i = g45)) ∧ Sl 40 fr [(3, .pointer (some (⟨w0.heap.size, 0, none⟩ : Addr))), (4, .pointer (some (⟨g13, 0, none⟩ : Addr))), (5, v20), (6, .pointer (some (⟨g45, 0, none⟩ : Addr))), (27, .agg #[.int .i64 (q46 : Int), .int .i64 (q47 : Int), St q48, .int .i64 ((100 : Int) * ((1 : Int) + (q49 : Int)))])] ∧ Ext w0 wl ∧ Box wl w0.heap.size 41 [.int .i64 (0 : Int), .int .i64 (0 : Int), St (([] : Str)), .int .i64 (0 : Int)] ∧ Src wl g13 w0.heap.size 81 ∧ Own shEnt 41 w11.heap.size w11.heap.size w21.heap.size wl v20 ((q24)) ∧ Box wl g45 41 [.int .i64 (0 : Int), .int .i64 (0 : Int), St (([] : Str)), .int .i64 (0 : Int)] ∧ (w41.heap.size ≤ g45) ∧ ((0 : Int) ≤ q46) ∧ (q46 ≤ (100 : Int)) ∧ ((0 : Int) ≤ q47) ∧ (q47 ≤ (100 : Int)) ∧ (q48.length ≤ 17) ∧ ((0 : Int) ≤ q49) ∧ (q49 ≤ (100 : Int)) ∧ (0 ≤ q47) ∧ ((4 : Int) ≤ 1 → q47 = 0) ∧ (1 < (4 : Int) → q47 < (4 : Int)) ∧ (0 ≤ q49) ∧ ((30 : Int) ≤ 1 → q49 = 0) ∧ (1 < (30 : Int) → q49 < (30 : Int)) ∧ w41.heap.size ≤ wl.heap.size) 1 #[true, true, true, true, true, true, true, true, true, true, true, true, true, true, true, true, true, true, false] ?_ ?_
  ·
   rintro a73 w50 _ ⟨g45, q46, q47, q48, q49, rfl, ha73, hx51, hf52, hf53, hf54, hf55, hg57, hg58, hg59, hg60, hg61, hg62, hg63, hg64, hg65, hg66, hg67, hg68, hg69, hg70, hzl56⟩
   have hzhx51 := hx51.size
   have hgl71 := hf53.lt
   have hgl72 := hf55.lt
   have hs74 : Ext w50 w50 := Ext.rfl' _
   refine dr_one (i := 18) (by kernel_rfl) ?_
   refine po_effS ha73 rfl rfl rfl (op_storeAll' ha73 rfl ti41 rfl rfl hf55 rfl rfl (by simp [Value.oneCell']) rfl) ?_
   rintro w75 ⟨hb77, hst76, hz78⟩
   have hx79 := hx51.stp hst76 (by intro q hq; cases hq; exact (by omega))
   have hzhx79 := hst76.size
   replace hf52 := hf52.stp hst76 (by intro q hq; cases hq; omega)
   replace hf53 := hf53.stp hst76 (by intro q hq; cases hq; omega)
   first | replace hf54 := hf54.stp hst76 (by intro q hq; cases hq; omega) | replace hf54 := hf54.stpF flat_shEnt hst76 (by intro q hq; cases hq; exact hf54.ne_box (by assumption) rfl)
   clear hf55
   have hs80 := (StpL.of_ext (B := fun i => i = g13 ∨ i = g45) hs74).trans' (Stp.toL hst76 (by intro q hq; cases hq; exact Or.inr (rfl)))
   refine ⟨hs80, ?_⟩
   refine dr_narrow (S' := fun w' => StpL w75 w' _) (fun w' h' => hs80.trans' h') _ _ _ _ ?_
   have hs81 : Ext w75 w75 := Ext.rfl' _
   refine dr_end (by kernel_rfl) ?_
   refine then_n ?_
   exact ⟨g45, q46, q47, q48, q49, (Sl.cons_ ha73 rfl rfl (Sl.cons_ ha73 rfl rfl (Sl.cons_ ha73 rfl rfl (Sl.cons_ ha73 rfl rfl (Sl.nil_ ha73))))), hx79, hf52, hf53, (hf54.fin (by omega) (by omega) (by omega)), hb77, (by omega), (by omega), (by omega), (by omega), (by omega), (by omega), (by omega), (by omega), (by omega)⟩
  intro hk82
  refine dr_share (fun fr wl S => ∃ (q83 : Int) (q84 : Int) (q85 : Str) (q86 : Int), S = (fun w' => Stp wl w' (some g13)) ∧ Sl 40 fr [(3, .pointer (some (⟨w0.heap.size, 0, none⟩ : Addr))), (4, .pointer (some (⟨g13, 0, none⟩ : Addr))), (5, v20), (27, .agg #[.int .i64 (q83 : Int), .int .i64 (q84 : Int), St q85, .int .i64 ((100 : Int) * ((1 : Int) + (q86 : Int)))])] ∧ Ext w0 wl ∧ Box wl w0.heap.size 41 [.int .i64 (0 : Int), .int .i64 (0 : Int), St (([] : Str)), .int .i64 (0 : Int)] ∧ Src wl g13 w0.heap.size 81 ∧ Own shEnt 41 w11.heap.size w11.heap.size w21.heap.size wl v20 ((q24)) ∧ ((0 : Int) ≤ q83) ∧ (q83 ≤ (100 : Int)) ∧ ((0 : Int) ≤ q84) ∧ (q84 ≤ (100 : Int)) ∧ (q85.length ≤ 17) ∧ ((0 : Int) ≤ q86) ∧ (q86 ≤ (100 : Int)) ∧ (0 ≤ q84) ∧ ((4 : Int) ≤ 1 → q84 = 0) ∧ (1 < (4 : Int) → q84 < (4 : Int)) ∧ (0 ≤ q86) ∧ ((30 : Int) ≤ 1 → q86 = 0) ∧ (1 < (30 : Int) → q86 < (30 : Int)) ∧ w41.heap.size ≤ wl.heap.size) 2 #[true, true, true, true, true, true, true, true, true, true, true, true, true, true, true, true, true, false, false] ?_ ?_
  ·
   rintro a107 w87 _ ⟨q83, q84, q85, q86, rfl, ha107, hx88, hf89, hf90, hf91, hg93, hg94, hg95, hg96, hg97, hg98, hg99, hg100, hg101, hg102, hg103, hg104, hg105, hzl92⟩
   have hzhx88 := hx88.size
   have hgl106 := hf90.lt
   have hs108 : Ext w87 w87 := Ext.rfl' _
   refine dr_one (i := 17) (by kernel_rfl) ?_
   refine po_eff ha107 rfl rfl rfl rfl (op_alloc' rfl ti41 rfl) ?_
   rintro _ w109 ⟨rfl, he110, hb111, hz112⟩ a113 ha113; clear ha107 a107
   have hs114 := hs108.trans' he110
   have hx115 := hx88.trans' he110
   have hzhx115 := he110.size
   refine ⟨(Stp.of_ext hs114 _), ?_⟩
   replace hf89 := hf89.ext hs114
   replace hf90 := hf90.ext hs114
   replace hf91 := hf91.ext hs114
   refine dr_narrow (S' := fun w' => StpL w109 w' (fun i => i = g13 ∨ i = w87.heap.size)) (fun w' h' => ((Stp.of_ext hs114 _)).freshL h' (by intro i hi; rcases hi with q | q <;> first | (exact Or.inl (congrArg some q.symm)) | (right; omega))) _ _ _ _ ?_
   have hs116 : Ext w109 w109 := Ext.rfl' _
   exact dr_listed (by kernel_rfl) (hk82 _ _ _ ⟨w87.heap.size, q83, q84, q85, q86, rfl, (Sl.cons_ ha113 rfl rfl (Sl.cons_ ha113 rfl rfl (Sl.cons_ ha113 rfl rfl (Sl.cons_ ha113 rfl rfl (Sl.cons_ ha113 rfl rfl (Sl.nil_ ha113)))))), hx115, hf89, hf90, (hf91.fin (by omega) (by omega) (by omega)), hb111, (by omega), (by omega), (by omega), (by omega), (by omega), (by omega), (by omega), (by omega), (by omega), (by first | assumption | omega | (simp only [List.mem_cons, List.not_mem_nil, or_false]; omega) | (constructor <;> omega)), (by omega), (by omega), (by first | assumption | omega | (simp only [List.mem_cons, List.not_mem_nil, or_false]; omega) | (constructor <;> omega)), (by omega), (by omega)⟩)
  intro hk117
  refine dr_share (fun fr wl S => ∃ (g118 : Nat) (q119 : Int) (q120 : Int) (q121 : Str), S = (fun w' => StpL wl w' (fun i => i = g13 ∨ i = g118)) ∧ Sl 40 fr [(3, .pointer (some (⟨w0.heap.size, 0, none⟩ : Addr))), (4, .pointer (some (⟨g13, 0, none⟩ : Addr))), (5, v20), (6, .pointer (some (⟨g118, 0, none⟩ : Addr))), (15, .int .i64 (q119 : Int)), (17, .int .i64 (q120 : Int)), (22, St q121), (23, .pointer (some (⟨g13, 0, none⟩ : Addr)))] ∧ Ext w0 wl ∧ Box wl w0.heap.size 41 [.int .i64 (0 : Int), .int .i64 (0 : Int), St (([] : Str)), .int .i64 (0 : Int)] ∧ Src wl g13 w0.heap.size 81 ∧ Own shEnt 41 w11.heap.size w11.heap.size w21.heap.size wl v20 ((q24)) ∧ Box wl g118 41 [.int .i64 (0 : Int), .int .i64 (0 : Int), St (([] : Str)), .int .i64 (0 : Int)] ∧ (w41.heap.size ≤ g118) ∧ ((0 : Int) ≤ q119) ∧ (q119 ≤ (100 : Int)) ∧ ((0 : Int) ≤ q120) ∧ (q120 ≤ (100 : Int)) ∧ (q121.length ≤ 17) ∧ (0 ≤ q120) ∧ ((4 : Int) ≤ 1 → q120 = 0) ∧ (1 < (4 : Int) → q120 < (4 : Int)) ∧ w41.heap.size ≤ wl.heap.size) 5 #[true, true, true, true, true, true, true, true, true, true, true, true, true, false, false, false, false, true, false] ?_ ?_
  ·
   rintro a140 w122 _ ⟨g118, q119, q120, q121, rfl, ha140, hx123, hf124, hf125, hf126, hf127, hg129, hg130, hg131, hg132, hg133, hg134, hg135, hg136, hg137, hzl128⟩
   have hzhx123 := hx123.size
   have hgl138 := hf125.lt
   have hgl139 := hf127.lt
   have hs141 : Ext w122 w122 := Ext.rfl' _
   refine dr_one (i := 13) (by kernel_rfl) ?_
   refine po_callS ha140 rfl rfl rfl rfl (op_call ha140 rfl cb73 rfl) (c_spec_l01Next _ g13 w0.heap.size (30 : Int) hf125) ?_
   rintro v142 w143 he144 ⟨hS145, ⟨q146, hq147, hq148, hq149, rfl⟩⟩ a150 ha150; clear ha140 a140
   have hx151 := hx123.stp he144 (by intro q hq; cases hq; exact (by omega))
   have hzhx151 := he144.size
   replace hf124 := hf124.stp he144 (by intro q hq; cases hq; omega)
   first | replace hf126 := hf126.stp he144 (by intro q hq; cases hq; omega) | replace hf126 := hf126.stpF flat_shEnt he144 (by intro q hq; cases hq; exact hf126.ne_box (by assumption) rfl)
   replace hf127 := hf127.stp he144 (by intro q hq; cases hq; omega)
   clear hf125
   have hSlhS145 := hS145.lt
   have hs152 := (StpL.of_ext (B := fun i => i = g13 ∨ i = g118) hs141).trans' (Stp.toL he144 (by intro q hq; cases hq; exact Or.inl rfl))
   refine ⟨hs152, ?_⟩
   refine dr_narrow (S' := fun w' => StpL w143 w' _) (fun w' h' => hs152.trans' h') _ _ _ _ ?_
   have hs153 : Ext w143 w143 := Ext.rfl' _
   refine dr_val (i := 14) ha150 rfl (by kernel_rfl) (by kernel_rfl) (by kernel_rfl) rfl rfl rfl (StpL.of_ext hs153) (fun w' hw' => (op_add ha150 rfl rfl rfl).int (IntWalk.i64_in _ (by omega))) ?_
   intro a154 ha154; clear ha150 a150
   refine dr_val (i := 15) ha154 rfl (by kernel_rfl) (by kernel_rfl) (by kernel_rfl) rfl rfl rfl (StpL.of_ext hs153) (fun w' hw' => (op_mul ha154 rfl rfl rfl).int (IntWalk.i64_in _ (by omega))) ?_
   intro a155 ha155; clear ha154 a154
   refine dr_val (i := 16) ha155 rfl (by kernel_rfl) (by kernel_rfl) (by kernel_rfl) rfl rfl rfl (StpL.of_ext hs153) (fun w' hw' => op_build (vs := [(0, .int .i64 (q119 : Int)), (1, .int .i64 (q120 : Int)), (2, St q121), (3, .int .i64 ((100 : Int) * ((1 : Int) + (q146 : Int))))]) (cs := #[.int .i64 (q119 : Int), .int .i64 (q120 : Int), St q121, .int .i64 ((100 : Int) * ((1 : Int) + (q146 : Int)))]) ha155 rfl Try.underlying41 ti41 bp41 rfl rfl) ?_
   intro a156 ha156; clear ha155 a155
   exact dr_listed (by kernel_rfl) (hk82 _ _ _ ⟨g118, q119, q120, q121, q146, rfl, (Sl.cons_ ha156 rfl rfl (Sl.cons_ ha156 rfl rfl (Sl.cons_ ha156 rfl rfl (Sl.cons_ ha156 rfl rfl (Sl.cons_ ha156 rfl rfl (Sl.nil_ ha156)))))), hx151, hf124, hS145, (hf126.fin (by omega) (by omega) (by omega)), hf127, (by omega), (by omega), (by omega), (by omega), (by omega), (by omega), (by omega), (by omega), (by omega), (by first | assumption | omega | (simp only [List.mem_cons, List.not_mem_nil, or_false]; omega) | (constructor <;> omega)), (by omega), (by omega), (by first | assumption | omega | (simp only [List.mem_cons, List.not_mem_nil, or_false]; omega) | (constructor <;> omega)), (by omega), (by omega)⟩)
  intro hk157
  refine dr_share (fun fr wl S => ∃ (g158 : Nat) (q159 : Int) (q160 : Int) (q161 : Int) (q162 : Int), S = (fun w' => StpL wl w' (fun i => i = g13 ∨ i = g158)) ∧ Sl 40 fr [(3, .pointer (some (⟨w0.heap.size, 0, none⟩ : Addr))), (4, .pointer (some (⟨g13, 0, none⟩ : Addr))), (5, v20), (6, .pointer (some (⟨g158, 0, none⟩ : Addr))), (15, .int .i64 (q159 : Int)), (17, .int .i64 (q160 : Int)), (20, .int .i64 (q161 : Int)), (26, .int .i64 ((100 : Int) * ((1 : Int) + (q162 : Int))))] ∧ Ext w0 wl ∧ Box wl w0.heap.size 41 [.int .i64 (0 : Int), .int .i64 (0 : Int), St (([] : Str)), .int .i64 (0 : Int)] ∧ Src wl g13 w0.heap.size 81 ∧ Own shEnt 41 w11.heap.size w11.heap.size w21.heap.size wl v20 ((q24)) ∧ Box wl g158 41 [.int .i64 (0 : Int), .int .i64 (0 : Int), St (([] : Str)), .int .i64 (0 : Int)] ∧ (w41.heap.size ≤ g158) ∧ ((0 : Int) ≤ q159) ∧ (q159 ≤ (100 : Int)) ∧ ((0 : Int) ≤ q160) ∧ (q160 ≤ (100 : Int)) ∧ ((0 : Int) ≤ q161) ∧ (q161 ≤ (100 : Int)) ∧ ((0 : Int) ≤ q162) ∧ (q162 ≤ (100 : Int)) ∧ (0 ≤ q160) ∧ ((4 : Int) ≤ 1 → q160 = 0) ∧ (1 < (4 : Int) → q160 < (4 : Int)) ∧ (0 ≤ q161) ∧ ((4 : Int) ≤ 1 → q161 = 0) ∧ (1 < (4 : Int) → q161 < (4 : Int)) ∧ (0 ≤ q162) ∧ ((30 : Int) ≤ 1 → q162 = 0) ∧ (1 < (30 : Int) → q162 < (30 : Int)) ∧ w41.heap.size ≤ wl.heap.size) 5 #[true, true, true, true, true, true, true, false, true, true, false, false, true, true, true, true, false, true, false] ?_ ?_
  ·
   rintro a190 w163 _ ⟨g158, q159, q160, q161, q162, rfl, ha190, hx164, hf165, hf166, hf167, hf168, hg170, hg171, hg172, hg173, hg174, hg175, hg176, hg177, hg178, hg179, hg180, hg181, hg182, hg183, hg184, hg185, hg186, hg187, hzl169⟩
   have hzhx164 := hx164.size
   have hgl188 := hf166.lt
   have hgl189 := hf168.lt
   have hs191 : Ext w163 w163 := Ext.rfl' _
   refine dr_one (i := 7) (by kernel_rfl) ?_
   refine po_eff ha190 rfl rfl rfl rfl (op_buildSlice (s := shStr) (xs := [([97, 100, 97] : Str), ([98, 111] : Str), ([] : Str), ([90] : Str)]) (cs := [St (([97, 100, 97] : Str)), St (([98, 111] : Str)), St (([] : Str)), St (([90] : Str))]) (vs := [(0, St (([97, 100, 97] : Str))), (1, St (([98, 111] : Str))), (2, St (([] : Str))), (3, St (([90] : Str)))]) (S := fun _ => False) (le := w163.heap.size) ha190 rfl pos_shStr Try.underlying52 ti9 rfl rfl (by decide) (by kernel_rfl) ⟨mk_shStr (([97, 100, 97] : Str)) (by first | assumption | omega | (constructor <;> omega) | (dsimp only; omega) | (simp; done) | (simp; omega)), mk_shStr (([98, 111] : Str)) (by first | assumption | omega | (constructor <;> omega) | (dsimp only; omega) | (simp; done) | (simp; omega)), mk_shStr (([] : Str)) (by first | assumption | omega | (constructor <;> omega) | (dsimp only; omega) | (simp; done) | (simp; omega)), mk_shStr (([90] : Str)) (by first | assumption | omega | (constructor <;> omega) | (dsimp only; omega) | (simp; done) | (simp; omega)), rfl⟩ (fun _ h => h.elim)) ?_
   rintro v192 w193 ⟨ho194, he195, hob196⟩ a197 ha197; clear ha190 a190
   have hs198 := hs191.trans' he195
   have hx199 := hx164.trans' he195
   have hzhx199 := he195.size
   refine ⟨(StpL.of_ext hs198), ?_⟩
   replace hf165 := hf165.ext hs198
   replace hf166 := hf166.ext hs198
   replace hf167 := hf167.ext hs198
   replace hf168 := hf168.ext hs198
   refine dr_narrow (S' := fun w' => StpL w193 w' _) (fun w' h' => (StpL.of_ext hs198).trans' h') _ _ _ _ ?_
   have hs200 : Ext w193 w193 := Ext.rfl' _
   obtain ⟨x201, hx201⟩ := get_ex (xs := [([97, 100, 97] : Str), ([98, 111] : Str), ([] : Str), ([90] : Str)]) (j := ((q161 : Int)).toNat) (by first | omega | (simp only [List.length_cons, List.length_nil]; omega))
   obtain ⟨p202, c203, hi204, hc205, hr206, hs207⟩ := Rds.at_ (ho194.rds pos_shStr) hx201
   obtain ⟨rfl, b208⟩ := inv_shStr hr206
   obtain ⟨_, _⟩ : _ ∧ _ := hs207
   have hdlx201 := el_len 17 (by rfl) hx201
   refine dr_val (i := 10) ha197 rfl (by kernel_rfl) (by kernel_rfl) (by kernel_rfl) rfl rfl rfl (StpL.of_ext hs200) (fun w' hw' => op_indexAddr ha197 rfl Try.underlying52 ti9 rfl rfl (by omega) hi204) ?_
   intro a209 ha209; clear ha197 a197
   refine dr_val (i := 11) ha209 rfl (by kernel_rfl) (by kernel_rfl) (by kernel_rfl) rfl rfl rfl (StpL.of_ext hs200) (fun w' hw' => op_loadH ha209 rfl Try.underlying9 rfl rfl (hc205.stpL hw' (by rintro (q | q) <;> first | omega)) rfl) ?_
   intro a210 ha210; clear ha209 a209
   refine dr_val (i := 16) ha210 rfl (by kernel_rfl) (by kernel_rfl) (by kernel_rfl) rfl rfl rfl (StpL.of_ext hs200) (fun w' hw' => op_build (vs := [(0, .int .i64 (q159 : Int)), (1, .int .i64 (q160 : Int)), (2, St x201), (3, .int .i64 ((100 : Int) * ((1 : Int) + (q162 : Int))))]) (cs := #[.int .i64 (q159 : Int), .int .i64 (q160 : Int), St x201, .int .i64 ((100 : Int) * ((1 : Int) + (q162 : Int)))]) ha210 rfl Try.underlying41 ti41 bp41 rfl rfl) ?_
   intro a211 ha211; clear ha210 a210
   exact dr_listed (by kernel_rfl) (hk82 _ _ _ ⟨g158, q159, q160, x201, q162, rfl, (Sl.cons_ ha211 rfl rfl (Sl.cons_ ha211 rfl rfl (Sl.cons_ ha211 rfl rfl (Sl.cons_ ha211 rfl rfl (Sl.cons_ ha211 rfl rfl (Sl.nil_ ha211)))))), hx199, hf165, hf166, (hf167.fin (by omega) (by omega) (by omega)), hf168, (by omega), (by omega), (by omega), (by omega), (by omega), (by omega), (by omega), (by omega), (by omega), (by first | assumption | omega | (simp only [List.mem_cons, List.not_mem_nil, or_false]; omega) | (constructor <;> omega)), (by omega), (by omega), (by first | assumption | omega | (simp only [List.mem_cons, List.not_mem_nil, or_false]; omega) | (constructor <;> omega)), (by omega), (by omega)⟩)
  intro hk212
  refine dr_share (fun fr wl S => ∃ (q213 : Int) (q214 : Int) (q215 : Str), S = (fun w' => Stp wl w' (some g13)) ∧ Sl 40 fr [(3, .pointer (some (⟨w0.heap.size, 0, none⟩ : Addr))), (4, .pointer (some (⟨g13, 0, none⟩ : Addr))), (5, v20), (15, .int .i64 (q213 : Int)), (17, .int .i64 (q214 : Int)), (22, St q215), (23, .pointer (some (⟨g13, 0, none⟩ : Addr)))] ∧ Ext w0 wl ∧ Box wl w0.heap.size 41 [.int .i64 (0 : Int), .int .i64 (0 : Int), St (([] : Str)), .int .i64 (0 : Int)] ∧ Src wl g13 w0.heap.size 81 ∧ Own shEnt 41 w11.heap.size w11.heap.size w21.heap.size wl v20 ((q24)) ∧ ((0 : Int) ≤ q213) ∧ (q213 ≤ (100 : Int)) ∧ ((0 : Int) ≤ q214) ∧ (q214 ≤ (100 : Int)) ∧ (q215.length ≤ 17) ∧ (0 ≤ q214) ∧ ((4 : Int) ≤ 1 → q214 = 0) ∧ (1 < (4 : Int) → q214 < (4 : Int)) ∧ w41.heap.size ≤ wl.heap.size) 6 #[true, true, true, true, true, true, true, true, true, true, true, true, true, false, false, false, false, false, false] ?_ ?_
  ·
   rintro a231 w216 _ ⟨q213, q214, q215, rfl, ha231, hx217, hf218, hf219, hf220, hg222, hg223, hg224, hg225, hg226, hg227, hg228, hg229, hzl221⟩
   have hzhx217 := hx217.size
   have hgl230 := hf219.lt
   have hs232 : Ext w216 w216 := Ext.rfl' _
   refine dr_two (i := 13) (j := 17) (by kernel_rfl) ?_ ?_
   ·
    refine po_callS ha231 rfl rfl rfl rfl (op_call ha231 rfl cb73 rfl) (c_spec_l01Next _ g13 w0.heap.size (30 : Int) hf219) ?_
    rintro v233 w234 he235 ⟨hS236, ⟨q237, hq238, hq239, hq240, rfl⟩⟩ a241 ha241; clear ha231 a231
    have hx242 := hx217.stp he235 (by intro q hq; cases hq; exact (by omega))
    have hzhx242 := he235.size
    replace hf218 := hf218.stp he235 (by intro q hq; cases hq; omega)
    first | replace hf220 := hf220.stp he235 (by intro q hq; cases hq; omega) | replace hf220 := hf220.stpF flat_shEnt he235 (by intro q hq; cases hq; exact hf220.ne_box (by assumption) rfl)
    clear hf219
    have hSlhS236 := hS236.lt
    have hs243 := (Stp.of_ext hs232 (some g13)).trans' he235
    refine ⟨hs243, ?_⟩
    refine dr_narrow (S' := fun w' => Stp w234 w' _) (fun w' h' => hs243.trans' h') _ _ _ _ ?_
    have hs244 : Ext w234 w234 := Ext.rfl' _
    refine dr_val (i := 14) ha241 rfl (by kernel_rfl) (by kernel_rfl) (by kernel_rfl) rfl rfl rfl (Stp.of_ext hs244 _) (fun w' hw' => (op_add ha241 rfl rfl rfl).int (IntWalk.i64_in _ (by omega))) ?_
    intro a245 ha245; clear ha241 a241
    refine dr_val (i := 15) ha245 rfl (by kernel_rfl) (by kernel_rfl) (by kernel_rfl) rfl rfl rfl (Stp.of_ext hs244 _) (fun w' hw' => (op_mul ha245 rfl rfl rfl).int (IntWalk.i64_in _ (by omega))) ?_
    intro a246 ha246; clear ha245 a245
    refine dr_val (i := 16) ha246 rfl (by kernel_rfl) (by kernel_rfl) (by kernel_rfl) rfl rfl rfl (Stp.of_ext hs244 _) (fun w' hw' => op_build (vs := [(0, .int .i64 (q213 : Int)), (1, .int .i64 (q214 : Int)), (2, St q215), (3, .int .i64 ((100 : Int) * ((1 : Int) + (q237 : Int))))]) (cs := #[.int .i64 (q213 : Int), .int .i64 (q214 : Int), St q215, .int .i64 ((100 : Int) * ((1 : Int) + (q237 : Int)))]) ha246 rfl Try.underlying41 ti41 bp41 rfl rfl) ?_
    intro a247 ha247; clear ha246 a246
    exact dr_listed (by kernel_rfl) (hk117 _ _ _ ⟨q213, q214, q215, q237, rfl, (Sl.cons_ ha247 rfl rfl (Sl.cons_ ha247 rfl rfl (Sl.cons_ ha247 rfl rfl (Sl.cons_ ha247 rfl rfl (Sl.nil_ ha247))))), hx242, hf218, hS236, (hf220.fin (by omega) (by omega) (by omega)), (by omega), (by omega), (by omega), (by omega), (by omega), (by omega), (by omega), (by omega), (by first | assumption | omega | (simp only [List.mem_cons, List.not_mem_nil, or_false]; omega) | (constructor <;> omega)), (by omega), (by omega), (by first | assumption | omega | (simp only [List.mem_cons, List.not_mem_nil, or_false]; omega) | (constructor <;> omega)), (by omega), (by omega)⟩)
   ·
    refine po_eff ha231 rfl rfl rfl rfl (op_alloc' rfl ti41 rfl) ?_
    rintro _ w248 ⟨rfl, he249, hb250, hz251⟩ a252 ha252; clear ha231 a231
    have hs253 := hs232.trans' he249
    have hx254 := hx217.trans' he249
    have hzhx254 := he249.size
    refine ⟨(Stp.of_ext hs253 _), ?_⟩
    replace hf218 := hf218.ext hs253
    replace hf219 := hf219.ext hs253
    replace hf220 := hf220.ext hs253
    refine dr_narrow (S' := fun w' => StpL w248 w' (fun i => i = g13 ∨ i = w216.heap.size)) (fun w' h' => ((Stp.of_ext hs253 _)).freshL h' (by intro i hi; rcases hi with q | q <;> first | (exact Or.inl (congrArg some q.symm)) | (right; omega))) _ _ _ _ ?_
    have hs255 : Ext w248 w248 := Ext.rfl' _
    exact dr_listed (by kernel_rfl) (hk157 _ _ _ ⟨w216.heap.size, q213, q214, q215, rfl, (Sl.cons_ ha252 rfl rfl (Sl.cons_ ha252 rfl rfl (Sl.cons_ ha252 rfl rfl (Sl.cons_ ha252 rfl rfl (Sl.cons_ ha252 rfl rfl (Sl.cons_ ha252 rfl rfl (Sl.cons_ ha252 rfl rfl (Sl.cons_ ha252 rfl rfl (Sl.nil_ ha252))))))))), hx254, hf218, hf219, (hf220.fin (by omega) (by omega) (by omega)), hb250, (by omega), (by omega), (by omega), (by omega), (by omega), (by omega), (by omega), (by first | assumption | omega | (simp only [List.mem_cons, List.not_mem_nil, or_false]; omega) | (constructor <;> omega)), (by omega), (by omega)⟩)
  intro hk256
  refine dr_share (fun fr wl S => ∃ (g257 : Nat) (q258 : Int) (q259 : Int) (q260 : Value) (n263 n264 : Nat), S = (fun w' => StpL wl w' (fun i => i = g13 ∨ i = g257)) ∧ Sl 40 fr [(3, .pointer (some (⟨w0.heap.size, 0, none⟩ : Addr))), (4, .pointer (some (⟨g13, 0, none⟩ : Addr))), (5, v20), (6, .pointer (some (⟨g257, 0, none⟩ : Addr))), (15, .int .i64 (q258 : Int)), (17, .int .i64 (q259 : Int)), (18, q260), (19, .pointer (some (⟨g13, 0, none⟩ : Addr))), (23, .pointer (some (⟨g13, 0, none⟩ : Addr)))] ∧ Ext w0 wl ∧ Box wl w0.heap.size 41 [.int .i64 (0 : Int), .int .i64 (0 : Int), St (([] : Str)), .int .i64 (0 : Int)] ∧ Src wl g13 w0.heap.size 81 ∧ Own shEnt 41 w11.heap.size w11.heap.size w21.heap.size wl v20 ((q24)) ∧ Box wl g257 41 [.int .i64 (0 : Int), .int .i64 (0 : Int), St (([] : Str)), .int .i64 (0 : Int)] ∧ Own shStr 9 n263 n263 n264 wl q260 ([([97, 100, 97] : Str), ([98, 111] : Str), ([] : Str), ([90] : Str)]) ∧ (w41.heap.size ≤ g257) ∧ ((0 : Int) ≤ q258) ∧ (q258 ≤ (100 : Int)) ∧ ((0 : Int) ≤ q259) ∧ (q259 ≤ (100 : Int)) ∧ (0 ≤ q259) ∧ ((4 : Int) ≤ 1 → q259 = 0) ∧ (1 < (4 : Int) → q259 < (4 : Int)) ∧ (w41.heap.size ≤ n263) ∧ (n264 ≤ wl.heap.size) ∧ (g257 < n263 ∨ n264 ≤ g257) ∧ w41.heap.size ≤ wl.heap.size) 8 #[true, true, true, true, true, true, true, true, true, false, false, false, true, false, false, false, false, true, false] ?_ ?_
  ·
   rintro a284 w261 _ ⟨g257, q258, q259, q260, n263, n264, rfl, ha284, hx262, hf265, hf266, hf267, hf268, hf269, hg271, hg272, hg273, hg274, hg275, hg276, hg277, hg278, hg279, hg280, hg281, hzl270⟩
   have hzhx262 := hx262.size
   have hgl282 := hf266.lt
   have hgl283 := hf268.lt
   have hs285 : Ext w261 w261 := Ext.rfl' _
   refine dr_one (i := 9) (by kernel_rfl) ?_
   refine po_callS ha284 rfl rfl rfl rfl (op_call ha284 rfl cb73 rfl) (c_spec_l01Next _ g13 w0.heap.size (4 : Int) hf266) ?_
   rintro v286 w287 he288 ⟨hS289, ⟨q290, hq291, hq292, hq293, rfl⟩⟩ a294 ha294; clear ha284 a284
   have hx295 := hx262.stp he288 (by intro q hq; cases hq; exact (by omega))
   have hzhx295 := he288.size
   replace hf265 := hf265.stp he288 (by intro q hq; cases hq; omega)
   first | replace hf267 := hf267.stp he288 (by intro q hq; cases hq; omega) | replace hf267 := hf267.stpF flat_shEnt he288 (by intro q hq; cases hq; exact hf267.ne_box (by assumption) rfl)
   replace hf268 := hf268.stp he288 (by intro q hq; cases hq; omega)
   first | replace hf269 := hf269.stp he288 (by intro q hq; cases hq; omega) | replace hf269 := hf269.stpF flat_shStr he288 (by intro q hq; cases hq; exact hf269.ne_box (by assumption) rfl)
   clear hf266
   have hSlhS289 := hS289.lt
   have hs296 := (StpL.of_ext (B := fun i => i = g13 ∨ i = g257) hs285).trans' (Stp.toL he288 (by intro q hq; cases hq; exact Or.inl rfl))
   refine ⟨hs296, ?_⟩
   refine dr_narrow (S' := fun w' => StpL w287 w' _) (fun w' h' => hs296.trans' h') _ _ _ _ ?_
   have hs297 : Ext w287 w287 := Ext.rfl' _
   obtain ⟨x298, hx298⟩ := get_ex (xs := [([97, 100, 97] : Str), ([98, 111] : Str), ([] : Str), ([90] : Str)]) (j := ((q290 : Int)).toNat) (by first | omega | (simp only [List.length_cons, List.length_nil]; omega))
   obtain ⟨p299, c300, hi301, hc302, hr303, hs304⟩ := Rds.at_ (hf269.rds pos_shStr) hx298
   obtain ⟨rfl, b305⟩ := inv_shStr hr303
   obtain ⟨_, _⟩ : _ ∧ _ := hs304
   have hdlx298 := el_len 17 (by rfl) hx298
   refine dr_val (i := 10) ha294 rfl (by kernel_rfl) (by kernel_rfl) (by kernel_rfl) rfl rfl rfl (StpL.of_ext hs297) (fun w' hw' => op_indexAddr ha294 rfl Try.underlying52 ti9 rfl rfl (by omega) hi301) ?_
   intro a306 ha306; clear ha294 a294
   refine dr_val (i := 11) ha306 rfl (by kernel_rfl) (by kernel_rfl) (by kernel_rfl) rfl rfl rfl (StpL.of_ext hs297) (fun w' hw' => op_loadH ha306 rfl Try.underlying9 rfl rfl (hc302.stpL hw' (by rintro (q | q) <;> first | omega)) rfl) ?_
   intro a307 ha307; clear ha306 a306
   exact dr_listed (by kernel_rfl) (hk157 _ _ _ ⟨g257, q258, q259, x298, rfl, (Sl.cons_ ha307 rfl rfl (Sl.cons_ ha307 rfl rfl (Sl.cons_ ha307 rfl rfl (Sl.cons_ ha307 rfl rfl (Sl.cons_ ha307 rfl rfl (Sl.cons_ ha307 rfl rfl (Sl.cons_ ha307 rfl rfl (Sl.cons_ ha307 rfl rfl (Sl.nil_ ha307))))))))), hx295, hf265, hS289, (hf267.fin (by omega) (by omega) (by omega)), hf268, (by omega), (by omega), (by omega), (by omega), (by omega), (by omega), (by omega), (by first | assumption | omega | (simp only [List.mem_cons, List.not_mem_nil, or_false]; omega) | (constructor <;> omega)), (by omega), (by omega)⟩)
  intro hk308
  refine dr_share (fun fr wl S => ∃ (g309 : Nat) (q310 : Int) (q311 : Int) (q312 : Int), S = (fun w' => StpL wl w' (fun i => i = g13 ∨ i = g309)) ∧ Sl 40 fr [(3, .pointer (some (⟨w0.heap.size, 0, none⟩ : Addr))), (4, .pointer (some (⟨g13, 0, none⟩ : Addr))), (5, v20), (6, .pointer (some (⟨g309, 0, none⟩ : Addr))), (15, .int .i64 (q310 : Int)), (17, .int .i64 (q311 : Int)), (20, .int .i64 (q312 : Int)), (23, .pointer (some (⟨g13, 0, none⟩ : Addr)))] ∧ Ext w0 wl ∧ Box wl w0.heap.size 41 [.int .i64 (0 : Int), .int .i64 (0 : Int), St (([] : Str)), .int .i64 (0 : Int)] ∧ Src wl g13 w0.heap.size 81 ∧ Own shEnt 41 w11.heap.size w11.heap.size w21.heap.size wl v20 ((q24)) ∧ Box wl g309 41 [.int .i64 (0 : Int), .int .i64 (0 : Int), St (([] : Str)), .int .i64 (0 : Int)] ∧ (w41.heap.size ≤ g309) ∧ ((0 : Int) ≤ q310) ∧ (q310 ≤ (100 : Int)) ∧ ((0 : Int) ≤ q311) ∧ (q311 ≤ (100 : Int)) ∧ ((0 : Int) ≤ q312) ∧ (q312 ≤ (100 : Int)) ∧ (0 ≤ q311) ∧ ((4 : Int) ≤ 1 → q311 = 0) ∧ (1 < (4 : Int) → q311 < (4 : Int)) ∧ (0 ≤ q312) ∧ ((4 : Int) ≤ 1 → q312 = 0) ∧ (1 < (4 : Int) → q312 < (4 : Int)) ∧ w41.heap.size ≤ wl.heap.size) 8 #[true, true, true, true, true, true, true, false, true, true, false, false, true, false, false, false, false, true, false] ?_ ?_
  ·
   rintro a335 w313 _ ⟨g309, q310, q311, q312, rfl, ha335, hx314, hf315, hf316, hf317, hf318, hg320, hg321, hg322, hg323, hg324, hg325, hg326, hg327, hg328, hg329, hg330, hg331, hg332, hzl319⟩
   have hzhx314 := hx314.size
   have hgl333 := hf316.lt
   have hgl334 := hf318.lt
   have hs336 : Ext w313 w313 := Ext.rfl' _
   refine dr_two (i := 7) (j := 13) (by kernel_rfl) ?_ ?_
   ·
    refine po_eff ha335 rfl rfl rfl rfl (op_buildSlice (s := shStr) (xs := [([97, 100, 97] : Str), ([98, 111] : Str), ([] : Str), ([90] : Str)]) (cs := [St (([97, 100, 97] : Str)), St (([98, 111] : Str)), St (([] : Str)), St (([90] : Str))]) (vs := [(0, St (([97, 100, 97] : Str))), (1, St (([98, 111] : Str))), (2, St (([] : Str))), (3, St (([90] : Str)))]) (S := fun _ => False) (le := w313.heap.size) ha335 rfl pos_shStr Try.underlying52 ti9 rfl rfl (by decide) (by kernel_rfl) ⟨mk_shStr (([97, 100, 97] : Str)) (by first | assumption | omega | (constructor <;> omega) | (dsimp only; omega) | (simp; done) | (simp; omega)), mk_shStr (([98, 111] : Str)) (by first | assumption | omega | (constructor <;> omega) | (dsimp only; omega) | (simp; done) | (simp; omega)), mk_shStr (([] : Str)) (by first | assumption | omega | (constructor <;> omega) | (dsimp only; omega) | (simp; done) | (simp; omega)), mk_shStr (([90] : Str)) (by first | assumption | omega | (constructor <;> omega) | (dsimp only; omega) | (simp; done) | (simp; omega)), rfl⟩ (fun _ h => h.elim)) ?_
    rintro v337 w338 ⟨ho339, he340, hob341⟩ a342 ha342; clear ha335 a335
    have hs343 := hs336.trans' he340
    have hx344 := hx314.trans' he340
    have hzhx344 := he340.size
    refine ⟨(StpL.of_ext hs343), ?_⟩
    replace hf315 := hf315.ext hs343
    replace hf316 := hf316.ext hs343
    replace hf317 := hf317.ext hs343
    replace hf318 := hf318.ext hs343
    refine dr_narrow (S' := fun w' => StpL w338 w' _) (fun w' h' => (StpL.of_ext hs343).trans' h') _ _ _ _ ?_
    have hs345 : Ext w338 w338 := Ext.rfl' _
    obtain ⟨x346, hx346⟩ := get_ex (xs := [([97, 100, 97] : Str), ([98, 111] : Str), ([] : Str), ([90] : Str)]) (j := ((q312 : Int)).toNat) (by first | omega | (simp only [List.length_cons, List.length_nil]; omega))
    obtain ⟨p347, c348, hi349, hc350, hr351, hs352⟩ := Rds.at_ (ho339.rds pos_shStr) hx346
    obtain ⟨rfl, b353⟩ := inv_shStr hr351
    obtain ⟨_, _⟩ : _ ∧ _ := hs352
    have hdlx346 := el_len 17 (by rfl) hx346
    refine dr_val (i := 10) ha342 rfl (by kernel_rfl) (by kernel_rfl) (by kernel_rfl) rfl rfl rfl (StpL.of_ext hs345) (fun w' hw' => op_indexAddr ha342 rfl Try.underlying52 ti9 rfl rfl (by omega) hi349) ?_
    intro a354 ha354; clear ha342 a342
    refine dr_val (i := 11) ha354 rfl (by kernel_rfl) (by kernel_rfl) (by kernel_rfl) rfl rfl rfl (StpL.of_ext hs345) (fun w' hw' => op_loadH ha354 rfl Try.underlying9 rfl rfl (hc350.stpL hw' (by rintro (q | q) <;> first | omega)) rfl) ?_
    intro a355 ha355; clear ha354 a354
    exact dr_listed (by kernel_rfl) (hk157 _ _ _ ⟨g309, q310, q311, x346, rfl, (Sl.cons_ ha355 rfl rfl (Sl.cons_ ha355 rfl rfl (Sl.cons_ ha355 rfl rfl (Sl.cons_ ha355 rfl rfl (Sl.cons_ ha355 rfl rfl (Sl.cons_ ha355 rfl rfl (Sl.cons_ ha355 rfl rfl (Sl.cons_ ha355 rfl rfl (Sl.nil_ ha355))))))))), hx344, hf315, hf316, (hf317.fin (by omega) (by omega) (by omega)), hf318, (by omega), (by omega), (by omega), (by omega), (by omega), (by omega), (by omega), (by first | assumption | omega | (simp only [List.mem_cons, List.not_mem_nil, or_false]; omega) | (constructor <;> omega)), (by omega), (by omega)⟩)
   ·
    refine po_callS ha335 rfl rfl rfl rfl (op_call ha335 rfl cb73 rfl) (c_spec_l01Next _ g13 w0.heap.size (30 : Int) hf316) ?_
    rintro v356 w357 he358 ⟨hS359, ⟨q360, hq361, hq362, hq363, rfl⟩⟩ a364 ha364; clear ha335 a335
    have hx365 := hx314.stp he358 (by intro q hq; cases hq; exact (by omega))
    have hzhx365 := he358.size
    replace hf315 := hf315.stp he358 (by intro q hq; cases hq; omega)
    first | replace hf317 := hf317.stp he358 (by intro q hq; cases hq; omega) | replace hf317 := hf317.stpF flat_shEnt he358 (by intro q hq; cases hq; exact hf317.ne_box (by assumption) rfl)
    replace hf318 := hf318.stp he358 (by intro q hq; cases hq; omega)
    clear hf316
    have hSlhS359 := hS359.lt
    have hs366 := (StpL.of_ext (B := fun i => i = g13 ∨ i = g309) hs336).trans' (Stp.toL he358 (by intro q hq; cases hq; exact Or.inl rfl))
    refine ⟨hs366, ?_⟩
    refine dr_narrow (S' := fun w' => StpL w357 w' _) (fun w' h' => hs366.trans' h') _ _ _ _ ?_
    have hs367 : Ext w357 w357 := Ext.rfl' _
    refine dr_val (i := 14) ha364 rfl (by kernel_rfl) (by kernel_rfl) (by kernel_rfl) rfl rfl rfl (StpL.of_ext hs367) (fun w' hw' => (op_add ha364 rfl rfl rfl).int (IntWalk.i64_in _ (by omega))) ?_
    intro a368 ha368; clear ha364 a364
    refine dr_val (i := 15) ha368 rfl (by kernel_rfl) (by kernel_rfl) (by kernel_rfl) rfl rfl rfl (StpL.of_ext hs367) (fun w' hw' => (op_mul ha368 rfl rfl rfl).int (IntWalk.i64_in _ (by omega))) ?_
    intro a369 ha369; clear ha368 a368
    exact dr_listed (by kernel_rfl) (hk212 _ _ _ ⟨g309, q310, q311, q312, q360, rfl, (Sl.cons_ ha369 rfl rfl (Sl.cons_ ha369 rfl rfl (Sl.cons_ ha369 rfl rfl (Sl.cons_ ha369 rfl rfl (Sl.cons_ ha369 rfl rfl (Sl.cons_ ha369 rfl rfl (Sl.cons_ ha369 rfl rfl (Sl.cons_ ha369 rfl rfl (Sl.nil_ ha369))))))))), hx365, hf315, hS359, (hf317.fin (by omega) (by omega) (by omega)), hf318, (by omega), (by omega), (by omega), (by omega), (by omega), (by omega), (by omega), (by omega), (by omega), (by omega), (by first | assumption | omega | (simp only [List.mem_cons, List.not_mem_nil, or_false]; omega) | (constructor <;> omega)), (by omega), (by omega), (by first | assumption | omega | (simp only [List.mem_cons, List.not_mem_nil, or_false]; omega) | (constructor <;> omega)), (by omega), (by omega), (by first | assumption | omega | (simp only [List.mem_cons, List.not_mem_nil, or_false]; omega) | (constructor <;> omega)), (by omega), (by omega)⟩)
  intro hk370
  refine dr_share (fun fr wl S => ∃ (q371 : Int) (q372 : Int) (q373 : Value) (n376 n377 : Nat), S = (fun w' => Stp wl w' (some g13)) ∧ Sl 40 fr [(3, .pointer (some (⟨w0.heap.size, 0, none⟩ : Addr))), (4, .pointer (some (⟨g13, 0, none⟩ : Addr))), (5, v20), (15, .int .i64 (q371 : Int)), (17, .int .i64 (q372 : Int)), (18, q373), (19, .pointer (some (⟨g13, 0, none⟩ : Addr))), (23, .pointer (some (⟨g13, 0, none⟩ : Addr)))] ∧ Ext w0 wl ∧ Box wl w0.heap.size 41 [.int .i64 (0 : Int), .int .i64 (0 : Int), St (([] : Str)), .int .i64 (0 : Int)] ∧ Src wl g13 w0.heap.size 81 ∧ Own shEnt 41 w11.heap.size w11.heap.size w21.heap.size wl v20 ((q24)) ∧ Own shStr 9 n376 n376 n377 wl q373 ([([97, 100, 97] : Str), ([98, 111] : Str), ([] : Str), ([90] : Str)]) ∧ ((0 : Int) ≤ q371) ∧ (q371 ≤ (100 : Int)) ∧ ((0 : Int) ≤ q372) ∧ (q372 ≤ (100 : Int)) ∧ (0 ≤ q372) ∧ ((4 : Int) ≤ 1 → q372 = 0) ∧ (1 < (4 : Int) → q372 < (4 : Int)) ∧ (w41.heap.size ≤ n376) ∧ (n377 ≤ wl.heap.size) ∧ w41.heap.size ≤ wl.heap.size) 9 #[true, true, true, true, true, true, true, true, true, false, false, false, true, false, false, false, false, false, false] ?_ ?_
  ·
   rintro a393 w374 _ ⟨q371, q372, q373, n376, n377, rfl, ha393, hx375, hf378, hf379, hf380, hf381, hg383, hg384, hg385, hg386, hg387, hg388, hg389, hg390, hg391, hzl382⟩
   have hzhx375 := hx375.size
   have hgl392 := hf379.lt
   have hs394 : Ext w374 w374 := Ext.rfl' _
   refine dr_two (i := 9) (j := 17) (by kernel_rfl) ?_ ?_
   ·
    refine po_callS ha393 rfl rfl rfl rfl (op_call ha393 rfl cb73 rfl) (c_spec_l01Next _ g13 w0.heap.size (4 : Int) hf379) ?_
    rintro v395 w396 he397 ⟨hS398, ⟨q399, hq400, hq401, hq402, rfl⟩⟩ a403 ha403; clear ha393 a393
    have hx404 := hx375.stp he397 (by intro q hq; cases hq; exact (by omega))
    have hzhx404 := he397.size
    replace hf378 := hf378.stp he397 (by intro q hq; cases hq; omega)
    first | replace hf380 := hf380.stp he397 (by intro q hq; cases hq; omega) | replace hf380 := hf380.stpF flat_shEnt he397 (by intro q hq; cases hq; exact hf380.ne_box (by assumption) rfl)
    first | replace hf381 := hf381.stp he397 (by intro q hq; cases hq; omega) | replace hf381 := hf381.stpF flat_shStr he397 (by intro q hq; cases hq; exact hf381.ne_box (by assumption) rfl)
    clear hf379
    have hSlhS398 := hS398.lt
    have hs405 := (Stp.of_ext hs394 (some g13)).trans' he397
    refine ⟨hs405, ?_⟩
    refine dr_narrow (S' := fun w' => Stp w396 w' _) (fun w' h' => hs405.trans' h') _ _ _ _ ?_
    have hs406 : Ext w396 w396 := Ext.rfl' _
    obtain ⟨x407, hx407⟩ := get_ex (xs := [([97, 100, 97] : Str), ([98, 111] : Str), ([] : Str), ([90] : Str)]) (j := ((q399 : Int)).toNat) (by first | omega | (simp only [List.length_cons, List.length_nil]; omega))
    obtain ⟨p408, c409, hi410, hc411, hr412, hs413⟩ := Rds.at_ (hf381.rds pos_shStr) hx407
    obtain ⟨rfl, b414⟩ := inv_shStr hr412
    obtain ⟨_, _⟩ : _ ∧ _ := hs413
    have hdlx407 := el_len 17 (by rfl) hx407
    refine dr_val (i := 10) ha403 rfl (by kernel_rfl) (by kernel_rfl) (by kernel_rfl) rfl rfl rfl (Stp.of_ext hs406 _) (fun w' hw' => op_indexAddr ha403 rfl Try.underlying52 ti9 rfl rfl (by omega) hi410) ?_
    intro a415 ha415; clear ha403 a403
    refine dr_val (i := 11) ha415 rfl (by kernel_rfl) (by kernel_rfl) (by kernel_rfl) rfl rfl rfl (Stp.of_ext hs406 _) (fun w' hw' => op_loadH ha415 rfl Try.underlying9 rfl rfl (hc411.stp hw' (by intro q hq; cases hq; omega)) rfl) ?_
    intro a416 ha416; clear ha415 a415
    exact dr_listed (by kernel_rfl) (hk256 _ _ _ ⟨q371, q372, x407, rfl, (Sl.cons_ ha416 rfl rfl (Sl.cons_ ha416 rfl rfl (Sl.cons_ ha416 rfl rfl (Sl.cons_ ha416 rfl rfl (Sl.cons_ ha416 rfl rfl (Sl.cons_ ha416 rfl rfl (Sl.cons_ ha416 rfl rfl (Sl.nil_ ha416)))))))), hx404, hf378, hS398, (hf380.fin (by omega) (by omega) (by omega)), (by omega), (by omega), (by omega), (by omega), (by omega), (by omega), (by first | assumption | omega | (simp only [List.mem_cons, List.not_mem_nil, or_false]; omega) | (constructor <;> omega)), (by omega), (by omega)⟩)
   ·
    refine po_eff ha393 rfl rfl rfl rfl (op_alloc' rfl ti41 rfl) ?_
    rintro _ w417 ⟨rfl, he418, hb419, hz420⟩ a421 ha421; clear ha393 a393
    have hs422 := hs394.trans' he418
    have hx423 := hx375.trans' he418
    have hzhx423 := he418.size
    refine ⟨(Stp.of_ext hs422 _), ?_⟩
    replace hf378 := hf378.ext hs422
    replace hf379 := hf379.ext hs422
    replace hf380 := hf380.ext hs422
    replace hf381 := hf381.ext hs422
    refine dr_narrow (S' := fun w' => StpL w417 w' (fun i => i = g13 ∨ i = w374.heap.size)) (fun w' h' => ((Stp.of_ext hs422 _)).freshL h' (by intro i hi; rcases hi with q | q <;> first | (exact Or.inl (congrArg some q.symm)) | (right; omega))) _ _ _ _ ?_
    have hs424 : Ext w417 w417 := Ext.rfl' _
    exact dr_listed (by kernel_rfl) (hk308 _ _ _ ⟨w374.heap.size, q371, q372, q373, n376, n377, rfl, (Sl.cons_ ha421 rfl rfl (Sl.cons_ ha421 rfl rfl (Sl.cons_ ha421 rfl rfl (Sl.cons_ ha421 rfl rfl (Sl.cons_ ha421 rfl rfl (Sl.cons_ ha421 rfl rfl (Sl.cons_ ha421 rfl rfl (Sl.cons_ ha421 rfl rfl (Sl.cons_ ha421 rfl rfl (Sl.nil_ ha421)))))))))), hx423, hf378, hf379, (hf380.fin (by omega) (by omega) (by omega)), hb419, hf381, (by omega), (by omega), (by omega), (by omega), (by omega), (by omega), (by first | assumption | omega | (simp only [List.mem_cons, List.not_mem_nil, or_false]; omega) | (constructor <;> omega)), (by omega), (by omega), (by omega), (by omega), (by omega)⟩)
  intro hk425
  refine dr_share (fun fr wl S => ∃ (g426 : Nat) (q427 : Int) (q428 : Int), S = (fun w' => StpL wl w' (fun i => i = g13 ∨ i = g426)) ∧ Sl 40 fr [(3, .pointer (some (⟨w0.heap.size, 0, none⟩ : Addr))), (4, .pointer (some (⟨g13, 0, none⟩ : Addr))), (5, v20), (6, .pointer (some (⟨g426, 0, none⟩ : Addr))), (15, .int .i64 (q427 : Int)), (17, .int .i64 (q428 : Int)), (19, .pointer (some (⟨g13, 0, none⟩ : Addr))), (23, .pointer (some (⟨g13, 0, none⟩ : Addr)))] ∧ Ext w0 wl ∧ Box wl w0.heap.size 41 [.int .i64 (0 : Int), .int .i64 (0 : Int), St (([] : Str)), .int .i64 (0 : Int)] ∧ Src wl g13 w0.heap.size 81 ∧ Own shEnt 41 w11.heap.size w11.heap.size w21.heap.size wl v20 ((q24)) ∧ Box wl g426 41 [.int .i64 (0 : Int), .int .i64 (0 : Int), St (([] : Str)), .int .i64 (0 : Int)] ∧ (w41.heap.size ≤ g426) ∧ ((0 : Int) ≤ q427) ∧ (q427 ≤ (100 : Int)) ∧ ((0 : Int) ≤ q428) ∧ (q428 ≤ (100 : Int)) ∧ (0 ≤ q428) ∧ ((4 : Int) ≤ 1 → q428 = 0) ∧ (1 < (4 : Int) → q428 < (4 : Int)) ∧ w41.heap.size ≤ wl.heap.size) 9 #[true, true, true, true, true, true, true, false, true, false, false, false, true, false, false, false, false, true, false] ?_ ?_
  ·
   rintro a446 w429 _ ⟨g426, q427, q428, rfl, ha446, hx430, hf431, hf432, hf433, hf434, hg436, hg437, hg438, hg439, hg440, hg441, hg442, hg443, hzl435⟩
   have hzhx430 := hx430.size
   have hgl444 := hf432.lt
   have hgl445 := hf434.lt
   have hs447 : Ext w429 w429 := Ext.rfl' _
   refine dr_two (i := 7) (j := 9) (by kernel_rfl) ?_ ?_
   ·
    refine po_eff ha446 rfl rfl rfl rfl (op_buildSlice (s := shStr) (xs := [([97, 100, 97] : Str), ([98, 111] : Str), ([] : Str), ([90] : Str)]) (cs := [St (([97, 100, 97] : Str)), St (([98, 111] : Str)), St (([] : Str)), St (([90] : Str))]) (vs := [(0, St (([97, 100, 97] : Str))), (1, St (([98, 111] : Str))), (2, St (([] : Str))), (3, St (([90] : Str)))]) (S := fun _ => False) (le := w429.heap.size) ha446 rfl pos_shStr Try.underlying52 ti9 rfl rfl (by decide) (by kernel_rfl) ⟨mk_shStr (([97, 100, 97] : Str)) (by first | assumption | omega | (constructor <;> omega) | (dsimp only; omega) | (simp; done) | (simp; omega)), mk_shStr (([98, 111] : Str)) (by first | assumption | omega | (constructor <;> omega) | (dsimp only; omega) | (simp; done) | (simp; omega)), mk_shStr (([] : Str)) (by first | assumption | omega | (constructor <;> omega) | (dsimp only; omega) | (simp; done) | (simp; omega)), mk_shStr (([90] : Str)) (by first | assumption | omega | (constructor <;> omega) | (dsimp only; omega) | (simp; done) | (simp; omega)), rfl⟩ (fun _ h => h.elim)) ?_
    rintro v448 w449 ⟨ho450, he451, hob452⟩ a453 ha453; clear ha446 a446
    have hs454 := hs447.trans' he451
    have hx455 := hx430.trans' he451
    have hzhx455 := he451.size
    refine ⟨(StpL.of_ext hs454), ?_⟩
    replace hf431 := hf431.ext hs454
    replace hf432 := hf432.ext hs454
    replace hf433 := hf433.ext hs454
    replace hf434 := hf434.ext hs454
    refine dr_narrow (S' := fun w' => StpL w449 w' _) (fun w' h' => (StpL.of_ext hs454).trans' h') _ _ _ _ ?_
    have hs456 : Ext w449 w449 := Ext.rfl' _
    exact dr_listed (by kernel_rfl) (hk308 _ _ _ ⟨g426, q427, q428, v448, w429.heap.size, w449.heap.size, rfl, (Sl.cons_ ha453 rfl rfl (Sl.cons_ ha453 rfl rfl (Sl.cons_ ha453 rfl rfl (Sl.cons_ ha453 rfl rfl (Sl.cons_ ha453 rfl rfl (Sl.cons_ ha453 rfl rfl (Sl.cons_ ha453 rfl rfl (Sl.cons_ ha453 rfl rfl (Sl.cons_ ha453 rfl rfl (Sl.nil_ ha453)))))))))), hx455, hf431, hf432, (hf433.fin (by omega) (by omega) (by omega)), hf434, ho450, (by omega), (by omega), (by omega), (by omega), (by omega), (by omega), (by first | assumption | omega | (simp only [List.mem_cons, List.not_mem_nil, or_false]; omega) | (constructor <;> omega)), (by omega), (by omega), (by omega), (by omega), (by omega)⟩)
   ·
    refine po_callS ha446 rfl rfl rfl rfl (op_call ha446 rfl cb73 rfl) (c_spec_l01Next _ g13 w0.heap.size (4 : Int) hf432) ?_
    rintro v457 w458 he459 ⟨hS460, ⟨q461, hq462, hq463, hq464, rfl⟩⟩ a465 ha465; clear ha446 a446
    have hx466 := hx430.stp he459 (by intro q hq; cases hq; exact (by omega))
    have hzhx466 := he459.size
    replace hf431 := hf431.stp he459 (by intro q hq; cases hq; omega)
    first | replace hf433 := hf433.stp he459 (by intro q hq; cases hq; omega) | replace hf433 := hf433.stpF flat_shEnt he459 (by intro q hq; cases hq; exact hf433.ne_box (by assumption) rfl)
    replace hf434 := hf434.stp he459 (by intro q hq; cases hq; omega)
    clear hf432
    have hSlhS460 := hS460.lt
    have hs467 := (StpL.of_ext (B := fun i => i = g13 ∨ i = g426) hs447).trans' (Stp.toL he459 (by intro q hq; cases hq; exact Or.inl rfl))
    refine ⟨hs467, ?_⟩
    refine dr_narrow (S' := fun w' => StpL w458 w' _) (fun w' h' => hs467.trans' h') _ _ _ _ ?_
    have hs468 : Ext w458 w458 := Ext.rfl' _
    exact dr_listed (by kernel_rfl) (hk370 _ _ _ ⟨g426, q427, q428, q461, rfl, (Sl.cons_ ha465 rfl rfl (Sl.cons_ ha465 rfl rfl (Sl.cons_ ha465 rfl rfl (Sl.cons_ ha465 rfl rfl (Sl.cons_ ha465 rfl rfl (Sl.cons_ ha465 rfl rfl (Sl.cons_ ha465 rfl rfl (Sl.cons_ ha465 rfl rfl (Sl.nil_ ha465))))))))), hx466, hf431, hS460, (hf433.fin (by omega) (by omega) (by omega)), hf434, (by omega), (by omega), (by omega), (by omega), (by omega), (by omega), (by omega), (by omega), (by first | assumption | omega | (simp only [List.mem_cons, List.not_mem_nil, or_false]; omega) | (constructor <;> omega)), (by omega), (by omega), (by first | assumption | omega | (simp only [List.mem_cons, List.not_mem_nil, or_false]; omega) | (constructor <;> omega)), (by omega), (by omega)⟩)
  intro hk469
  refine dr_share (fun fr wl S => ∃ (g470 : Nat) (q471 : Int) (q472 : Value) (n475 n476 : Nat), S = (fun w' => StpL wl w' (fun i => i = g13 ∨ i = g470)) ∧ Sl 40 fr [(3, .pointer (some (⟨w0.heap.size, 0, none⟩ : Addr))), (4, .pointer (some (⟨g13, 0, none⟩ : Addr))), (5, v20), (6, .pointer (some (⟨g470, 0, none⟩ : Addr))), (15, .int .i64 (q471 : Int)), (16, .pointer (some (⟨g13, 0, none⟩ : Addr))), (18, q472), (19, .pointer (some (⟨g13, 0, none⟩ : Addr))), (23, .pointer (some (⟨g13, 0, none⟩ : Addr)))] ∧ Ext w0 wl ∧ Box wl w0.heap.size 41 [.int .i64 (0 : Int), .int .i64 (0 : Int), St (([] : Str)), .int .i64 (0 : Int)] ∧ Src wl g13 w0.heap.size 81 ∧ Own shEnt 41 w11.heap.size w11.heap.size w21.heap.size wl v20 ((q24)) ∧ Box wl g470 41 [.int .i64 (0 : Int), .int .i64 (0 : Int), St (([] : Str)), .int .i64 (0 : Int)] ∧ Own shStr 9 n475 n475 n476 wl q472 ([([97, 100, 97] : Str), ([98, 111] : Str), ([] : Str), ([90] : Str)]) ∧ (w41.heap.size ≤ g470) ∧ ((0 : Int) ≤ q471) ∧ (q471 ≤ (100 : Int)) ∧ (w41.heap.size ≤ n475) ∧ (n476 ≤ wl.heap.size) ∧ (g470 < n475 ∨ n476 ≤ g470) ∧ w41.heap.size ≤ wl.heap.size) 9 #[true, true, true, true, true, true, false, true, true, false, false, false, true, false, false, false, false, true, false] ?_ ?_
  ·
   rintro a491 w473 _ ⟨g470, q471, q472, n475, n476, rfl, ha491, hx474, hf477, hf478, hf479, hf480, hf481, hg483, hg484, hg485, hg486, hg487, hg488, hzl482⟩
   have hzhx474 := hx474.size
   have hgl489 := hf478.lt
   have hgl490 := hf480.lt
   have hs492 : Ext w473 w473 := Ext.rfl' _
   refine dr_one (i := 6) (by kernel_rfl) ?_
   refine po_callS ha491 rfl rfl rfl rfl (op_call ha491 rfl cb73 rfl) (c_spec_l01Next _ g13 w0.heap.size (4 : Int) hf478) ?_
   rintro v493 w494 he495 ⟨hS496, ⟨q497, hq498, hq499, hq500, rfl⟩⟩ a501 ha501; clear ha491 a491
   have hx502 := hx474.stp he495 (by intro q hq; cases hq; exact (by omega))
   have hzhx502 := he495.size
   replace hf477 := hf477.stp he495 (by intro q hq; cases hq; omega)
   first | replace hf479 := hf479.stp he495 (by intro q hq; cases hq; omega) | replace hf479 := hf479.stpF flat_shEnt he495 (by intro q hq; cases hq; exact hf479.ne_box (by assumption) rfl)
   replace hf480 := hf480.stp he495 (by intro q hq; cases hq; omega)
   first | replace hf481 := hf481.stp he495 (by intro q hq; cases hq; omega) | replace hf481 := hf481.stpF flat_shStr he495 (by intro q hq; cases hq; exact hf481.ne_box (by assumption) rfl)
   clear hf478
   have hSlhS496 := hS496.lt
   have hs503 := (StpL.of_ext (B := fun i => i = g13 ∨ i = g470) hs492).trans' (Stp.toL he495 (by intro q hq; cases hq; exact Or.inl rfl))
   refine ⟨hs503, ?_⟩
   refine dr_narrow (S' := fun w' => StpL w494 w' _) (fun w' h' => hs503.trans' h') _ _ _ _ ?_
   have hs504 : Ext w494 w494 := Ext.rfl' _
   exact dr_listed (by kernel_rfl) (hk308 _ _ _ ⟨g470, q471, q497, q472, n475, n476, rfl, (Sl.cons_ ha501 rfl rfl (Sl.cons_ ha501 rfl rfl (Sl.cons_ ha501 rfl rfl (Sl.cons_ ha501 rfl rfl (Sl.cons_ ha501 rfl rfl (Sl.cons_ ha501 rfl rfl (Sl.cons_ ha501 rfl rfl (Sl.cons_ ha501 rfl rfl (Sl.cons_ ha501 rfl rfl (Sl.nil_ ha501)))))))))), hx502, hf477, hS496, (hf479.fin (by omega) (by omega) (by omega)), hf480, hf481, (by omega), (by omega), (by omega), (by omega), (by omega), (by omega), (by first | assumption | omega | (simp only [List.mem_cons, List.not_mem_nil, or_false]; omega) | (constructor <;> omega)), (by omega), (by omega), (by omega), (by omega), (by omega)⟩)
  intro hk505
  refine dr_share (fun fr wl S => ∃ (q506 : Int) (q507 : Value) (n510 n511 : Nat), S = (fun w' => Stp wl w' (some g13)) ∧ Sl 40 fr [(3, .pointer (some (⟨w0.heap.size, 0, none⟩ : Addr))), (4, .pointer (some (⟨g13, 0, none⟩ : Addr))), (5, v20), (15, .int .i64 (q506 : Int)), (16, .pointer (some (⟨g13, 0, none⟩ : Addr))), (18, q507), (19, .pointer (some (⟨g13, 0, none⟩ : Addr))), (23, .pointer (some (⟨g13, 0, none⟩ : Addr)))] ∧ Ext w0 wl ∧ Box wl w0.heap.size 41 [.int .i64 (0 : Int), .int .i64 (0 : Int), St (([] : Str)), .int .i64 (0 : Int)] ∧ Src wl g13 w0.heap.size 81 ∧ Own shEnt 41 w11.heap.size w11.heap.size w21.heap.size wl v20 ((q24)) ∧ Own shStr 9 n510 n510 n511 wl q507 ([([97, 100, 97] : Str), ([98, 111] : Str), ([] : Str), ([90] : Str)]) ∧ ((0 : Int) ≤ q506) ∧ (q506 ≤ (100 : Int)) ∧ (w41.heap.size ≤ n510) ∧ (n511 ≤ wl.heap.size) ∧ w41.heap.size ≤ wl.heap.size) 10 #[true, true, true, true, true, true, false, true, true, false, false, false, true, false, false, false, false, false, false] ?_ ?_
  ·
   rintro a522 w508 _ ⟨q506, q507, n510, n511, rfl, ha522, hx509, hf512, hf513, hf514, hf515, hg517, hg518, hg519, hg520, hzl516⟩
   have hzhx509 := hx509.size
   have hgl521 := hf513.lt
   have hs523 : Ext w508 w508 := Ext.rfl' _
   refine dr_two (i := 6) (j := 17) (by kernel_rfl) ?_ ?_
   ·
    refine po_callS ha522 rfl rfl rfl rfl (op_call ha522 rfl cb73 rfl) (c_spec_l01Next _ g13 w0.heap.size (4 : Int) hf513) ?_
    rintro v524 w525 he526 ⟨hS527, ⟨q528, hq529, hq530, hq531, rfl⟩⟩ a532 ha532; clear ha522 a522
    have hx533 := hx509.stp he526 (by intro q hq; cases hq; exact (by omega))
    have hzhx533 := he526.size
    replace hf512 := hf512.stp he526 (by intro q hq; cases hq; omega)
    first | replace hf514 := hf514.stp he526 (by intro q hq; cases hq; omega) | replace hf514 := hf514.stpF flat_shEnt he526 (by intro q hq; cases hq; exact hf514.ne_box (by assumption) rfl)
    first | replace hf515 := hf515.stp he526 (by intro q hq; cases hq; omega) | replace hf515 := hf515.stpF flat_shStr he526 (by intro q hq; cases hq; exact hf515.ne_box (by assumption) rfl)
    clear hf513
    have hSlhS527 := hS527.lt
    have hs534 := (Stp.of_ext hs523 (some g13)).trans' he526
    refine ⟨hs534, ?_⟩
    refine dr_narrow (S' := fun w' => Stp w525 w' _) (fun w' h' => hs534.trans' h') _ _ _ _ ?_
    have hs535 : Ext w525 w525 := Ext.rfl' _
    exact dr_listed (by kernel_rfl) (hk425 _ _ _ ⟨q506, q528, q507, n510, n511, rfl, (Sl.cons_ ha532 rfl rfl (Sl.cons_ ha532 rfl rfl (Sl.cons_ ha532 rfl rfl (Sl.cons_ ha532 rfl rfl (Sl.cons_ ha532 rfl rfl (Sl.cons_ ha532 rfl rfl (Sl.cons_ ha532 rfl rfl (Sl.cons_ ha532 rfl rfl (Sl.nil_ ha532))))))))), hx533, hf512, hS527, (hf514.fin (by omega) (by omega) (by omega)), hf515, (by omega), (by omega), (by omega), (by omega), (by omega), (by first | assumption | omega | (simp only [List.mem_cons, List.not_mem_nil, or_false]; omega) | (constructor <;> omega)), (by omega), (by omega), (by omega), (by omega)⟩)
   ·
    refine po_eff ha522 rfl rfl rfl rfl (op_alloc' rfl ti41 rfl) ?_
    rintro _ w536 ⟨rfl, he537, hb538, hz539⟩ a540 ha540; clear ha522 a522
    have hs541 := hs523.trans' he537
    have hx542 := hx509.trans' he537
    have hzhx542 := he537.size
    refine ⟨(Stp.of_ext hs541 _), ?_⟩
    replace hf512 := hf512.ext hs541
    replace hf513 := hf513.ext hs541
    replace hf514 := hf514.ext hs541
    replace hf515 := hf515.ext hs541
    refine dr_narrow (S' := fun w' => StpL w536 w' (fun i => i = g13 ∨ i = w508.heap.size)) (fun w' h' => ((Stp.of_ext hs541 _)).freshL h' (by intro i hi; rcases hi with q | q <;> first | (exact Or.inl (congrArg some q.symm)) | (right; omega))) _ _ _ _ ?_
    have hs543 : Ext w536 w536 := Ext.rfl' _
    exact dr_listed (by kernel_rfl) (hk505 _ _ _ ⟨w508.heap.size, q506, q507, n510, n511, rfl, (Sl.cons_ ha540 rfl rfl (Sl.cons_ ha540 rfl rfl (Sl.cons_ ha540 rfl rfl (Sl.cons_ ha540 rfl rfl (Sl.cons_ ha540 rfl rfl (Sl.cons_ ha540 rfl rfl (Sl.cons_ ha540 rfl rfl (Sl.cons_ ha540 rfl rfl (Sl.cons_ ha540 rfl rfl (Sl.nil_ ha540)))))))))), hx542, hf512, hf513, (hf514.fin (by omega) (by omega) (by omega)), hb538, hf515, (by omega), (by omega), (by omega), (by omega), (by omega), (by omega), (by omega)⟩)
  intro hk544
  refine dr_share (fun fr wl S => ∃ (g545 : Nat) (q546 : Int), S = (fun w' => StpL wl w' (fun i => i = g13 ∨ i = g545)) ∧ Sl 40 fr [(3, .pointer (some (⟨w0.heap.size, 0, none⟩ : Addr))), (4, .pointer (some (⟨g13, 0, none⟩ : Addr))), (5, v20), (6, .pointer (some (⟨g545, 0, none⟩ : Addr))), (15, .int .i64 (q546 : Int)), (16, .pointer (some (⟨g13, 0, none⟩ : Addr))), (19, .pointer (some (⟨g13, 0, none⟩ : Addr))), (23, .pointer (some (⟨g13, 0, none⟩ : Addr)))] ∧ Ext w0 wl ∧ Box wl w0.heap.size 41 [.int .i64 (0 : Int), .int .i64 (0 : Int), St (([] : Str)), .int .i64 (0 : Int)] ∧ Src wl g13 w0.heap.size 81 ∧ Own shEnt 41 w11.heap.size w11.heap.size w21.heap.size wl v20 ((q24)) ∧ Box wl g545 41 [.int .i64 (0 : Int), .int .i64 (0 : Int), St (([] : Str)), .int .i64 (0 : Int)] ∧ (w41.heap.size ≤ g545) ∧ ((0 : Int) ≤ q546) ∧ (q546 ≤ (100 : Int)) ∧ w41.heap.size ≤ wl.heap.size) 10 #[true, true, true, true, true, true, false, false, true, false, false, false, true, false, false, false, false, true, false] ?_ ?_
  ·
   rintro a559 w547 _ ⟨g545, q546, rfl, ha559, hx548, hf549, hf550, hf551, hf552, hg554, hg555, hg556, hzl553⟩
   have hzhx548 := hx548.size
   have hgl557 := hf550.lt
   have hgl558 := hf552.lt
   have hs560 : Ext w547 w547 := Ext.rfl' _
   refine dr_two (i := 6) (j := 7) (by kernel_rfl) ?_ ?_
   ·
    refine po_callS ha559 rfl rfl rfl rfl (op_call ha559 rfl cb73 rfl) (c_spec_l01Next _ g13 w0.heap.size (4 : Int) hf550) ?_
    rintro v561 w562 he563 ⟨hS564, ⟨q565, hq566, hq567, hq568, rfl⟩⟩ a569 ha569; clear ha559 a559
    have hx570 := hx548.stp he563 (by intro q hq; cases hq; exact (by omega))
    have hzhx570 := he563.size
    replace hf549 := hf549.stp he563 (by intro q hq; cases hq; omega)
    first | replace hf551 := hf551.stp he563 (by intro q hq; cases hq; omega) | replace hf551 := hf551.stpF flat_shEnt he563 (by intro q hq; cases hq; exact hf551.ne_box (by assumption) rfl)
    replace hf552 := hf552.stp he563 (by intro q hq; cases hq; omega)
    clear hf550
    have hSlhS564 := hS564.lt
    have hs571 := (StpL.of_ext (B := fun i => i = g13 ∨ i = g545) hs560).trans' (Stp.toL he563 (by intro q hq; cases hq; exact Or.inl rfl))
    refine ⟨hs571, ?_⟩
    refine dr_narrow (S' := fun w' => StpL w562 w' _) (fun w' h' => hs571.trans' h') _ _ _ _ ?_
    have hs572 : Ext w562 w562 := Ext.rfl' _
    exact dr_listed (by kernel_rfl) (hk469 _ _ _ ⟨g545, q546, q565, rfl, (Sl.cons_ ha569 rfl rfl (Sl.cons_ ha569 rfl rfl (Sl.cons_ ha569 rfl rfl (Sl.cons_ ha569 rfl rfl (Sl.cons_ ha569 rfl rfl (Sl.cons_ ha569 rfl rfl (Sl.cons_ ha569 rfl rfl (Sl.cons_ ha569 rfl rfl (Sl.nil_ ha569))))))))), hx570, hf549, hS564, (hf551.fin (by omega) (by omega) (by omega)), hf552, (by omega), (by omega), (by omega), (by omega), (by omega), (by omega), (by first | assumption | omega | (simp only [List.mem_cons, List.not_mem_nil, or_false]; omega) | (constructor <;> omega)), (by omega), (by omega)⟩)
   ·
    refine po_eff ha559 rfl rfl rfl rfl (op_buildSlice (s := shStr) (xs := [([97, 100, 97] : Str), ([98, 111] : Str), ([] : Str), ([90] : Str)]) (cs := [St (([97, 100, 97] : Str)), St (([98, 111] : Str)), St (([] : Str)), St (([90] : Str))]) (vs := [(0, St (([97, 100, 97] : Str))), (1, St (([98, 111] : Str))), (2, St (([] : Str))), (3, St (([90] : Str)))]) (S := fun _ => False) (le := w547.heap.size) ha559 rfl pos_shStr Try.underlying52 ti9 rfl rfl (by decide) (by kernel_rfl) ⟨mk_shStr (([97, 100, 97] : Str)) (by first | assumption | omega | (constructor <;> omega) | (dsimp only; omega) | (simp; done) | (simp; omega)), mk_shStr (([98, 111] : Str)) (by first | assumption | omega | (constructor <;> omega) | (dsimp only; omega) | (simp; done) | (simp; omega)), mk_shStr (([] : Str)) (by first | assumption | omega | (constructor <;> omega) | (dsimp only; omega) | (simp; done) | (simp; omega)), mk_shStr (([90] : Str)) (by first | assumption | omega | (constructor <;> omega) | (dsimp only; omega) | (simp; done) | (simp; omega)), rfl⟩ (fun _ h => h.elim)) ?_
    rintro v573 w574 ⟨ho575, he576, hob577⟩ a578 ha578; clear ha559 a559
    have hs579 := hs560.trans' he576
    have hx580 := hx548.trans' he576
    have hzhx580 := he576.size
    refine ⟨(StpL.of_ext hs579), ?_⟩
    replace hf549 := hf549.ext hs579
    replace hf550 := hf550.ext hs579
    replace hf551 := hf551.ext hs579
    replace hf552 := hf552.ext hs579
    refine dr_narrow (S' := fun w' => StpL w574 w' _) (fun w' h' => (StpL.of_ext hs579).trans' h') _ _ _ _ ?_
    have hs581 : Ext w574 w574 := Ext.rfl' _
    exact dr_listed (by kernel_rfl) (hk505 _ _ _ ⟨g545, q546, v573, w547.heap.size, w574.heap.size, rfl, (Sl.cons_ ha578 rfl rfl (Sl.cons_ ha578 rfl rfl (Sl.cons_ ha578 rfl rfl (Sl.cons_ ha578 rfl rfl (Sl.cons_ ha578 rfl rfl (Sl.cons_ ha578 rfl rfl (Sl.cons_ ha578 rfl rfl (Sl.cons_ ha578 rfl rfl (Sl.cons_ ha578 rfl rfl (Sl.nil_ ha578)))))))))), hx580, hf549, hf550, (hf551.fin (by omega) (by omega) (by omega)), hf552, ho575, (by omega), (by omega), (by omega), (by omega), (by omega), (by omega), (by omega)⟩)
  intro hk582
  refine dr_share (fun fr wl S => ∃ (g588 : Nat) (q589 : Int) (q590 : Value) (n593 n594 : Nat), S = (fun w' => StpL wl w' (fun i => i = g13 ∨ i = g588)) ∧ Sl 40 fr [(3, .pointer (some (⟨w0.heap.size, 0, none⟩ : Addr))), (4, .pointer (some (⟨g13, 0, none⟩ : Addr))), (5, v20), (6, .pointer (some (⟨g588, 0, none⟩ : Addr))), (11, .pointer (some (⟨g13, 0, none⟩ : Addr))), (13, .int .i64 (q589 : Int)), (16, .pointer (some (⟨g13, 0, none⟩ : Addr))), (18, q590), (19, .pointer (some (⟨g13, 0, none⟩ : Addr))), (23, .pointer (some (⟨g13, 0, none⟩ : Addr)))] ∧ Ext w0 wl ∧ Box wl w0.heap.size 41 [.int .i64 (0 : Int), .int .i64 (0 : Int), St (([] : Str)), .int .i64 (0 : Int)] ∧ Src wl g13 w0.heap.size 81 ∧ Own shEnt 41 w11.heap.size w11.heap.size w21.heap.size wl v20 ((q24)) ∧ Box wl g588 41 [.int .i64 (0 : Int), .int .i64 (0 : Int), St (([] : Str)), .int .i64 (0 : Int)] ∧ Own shStr 9 n593 n593 n594 wl q590 ([([97, 100, 97] : Str), ([98, 111] : Str), ([] : Str), ([90] : Str)]) ∧ (w41.heap.size ≤ g588) ∧ ((0 : Int) ≤ q589) ∧ (q589 ≤ (100 : Int)) ∧ (0 ≤ q589) ∧ ((50 : Int) ≤ 1 → q589 = 0) ∧ (1 < (50 : Int) → q589 < (50 : Int)) ∧ (w41.heap.size ≤ n593) ∧ (n594 ≤ wl.heap.size) ∧ (g588 < n593 ∨ n594 ≤ g588) ∧ w41.heap.size ≤ wl.heap.size) 11 #[true, true, true, false, false, true, false, true, true, false, false, false, true, false, false, false, false, true, false] ?_ ?_
  ·
   rintro a612 w591 _ ⟨g588, q589, q590, n593, n594, rfl, ha612, hx592, hf595, hf596, hf597, hf598, hf599, hg601, hg602, hg603, hg604, hg605, hg606, hg607, hg608, hg609, hzl600⟩
   have hzhx592 := hx592.size
   have hgl610 := hf596.lt
   have hgl611 := hf598.lt
   have hs613 : Ext w591 w591 := Ext.rfl' _
   refine dr_one (i := 3) (by kernel_rfl) ?_
   refine po_eff ha612 rfl rfl rfl rfl (op_buildSlice (s := shI64) (xs := [(95 : Int), (99 : Int), (q589 : Int)]) (cs := [.int .i64 (95 : Int), .int .i64 (99 : Int), .int .i64 (q589 : Int)]) (vs := [(0, .int .i64 (95 : Int)), (1, .int .i64 (99 : Int)), (2, .int .i64 (q589 : Int))]) (S := fun _ => False) (le := w591.heap.size) ha612 rfl pos_shI64 Try.underlying45 ti2 rfl rfl (by decide) (by kernel_rfl) ⟨mk_shI64 ((95 : Int)) (by first | assumption | omega | (constructor <;> omega) | (dsimp only; omega) | (simp; done) | (simp; omega)), mk_shI64 ((99 : Int)) (by first | assumption | omega | (constructor <;> omega) | (dsimp only; omega) | (simp; done) | (simp; omega)), mk_shI64 ((q589 : Int)) (by first | assumption | omega | (constructor <;> omega) | (dsimp only; omega) | (simp; done) | (simp; omega)), rfl⟩ (fun _ h => h.elim)) ?_
   rintro v614 w615 ⟨ho616, he617, hob618⟩ a619 ha619; clear ha612 a612
   have hs620 := hs613.trans' he617
   have hx621 := hx592.trans' he617
   have hzhx621 := he617.size
   refine ⟨(StpL.of_ext hs620), ?_⟩
   replace hf595 := hf595.ext hs620
   replace hf596 := hf596.ext hs620
   replace hf597 := hf597.ext hs620
   replace hf598 := hf598.ext hs620
   replace hf599 := hf599.ext hs620
   refine dr_narrow (S' := fun w' => StpL w615 w' _) (fun w' h' => (StpL.of_ext hs620).trans' h') _ _ _ _ ?_
   have hs622 : Ext w615 w615 := Ext.rfl' _
   refine dr_one (i := 4) (by kernel_rfl) ?_
   refine po_callS ha619 rfl rfl rfl rfl (op_call ha619 rfl cb72 rfl) (c_spec_l01Pick _ g13 w0.heap.size v614 ([(95 : Int), (99 : Int), (q589 : Int)]) hf596 (ho616.rds pos_shI64) (by rintro ⟨_, _⟩; omega) (by first | assumption | omega | (constructor <;> omega) | (dsimp only; omega) | (simp; done) | (simp; omega))) ?_
   rintro v623 w624 he625 ⟨hS626, ⟨q627, hq628, rfl⟩⟩ a629 ha629; clear ha619 a619
   have hx630 := hx621.stp he625 (by intro q hq; cases hq; exact (by omega))
   have hzhx630 := he625.size
   replace hf595 := hf595.stp he625 (by intro q hq; cases hq; omega)
   first | replace hf597 := hf597.stp he625 (by intro q hq; cases hq; omega) | replace hf597 := hf597.stpF flat_shEnt he625 (by intro q hq; cases hq; exact hf597.ne_box (by assumption) rfl)
   replace hf598 := hf598.stp he625 (by intro q hq; cases hq; omega)
   first | replace hf599 := hf599.stp he625 (by intro q hq; cases hq; omega) | replace hf599 := hf599.stpF flat_shStr he625 (by intro q hq; cases hq; exact hf599.ne_box (by assumption) rfl)
   first | replace ho616 := ho616.stp he625 (by intro q hq; cases hq; omega) | replace ho616 := ho616.stpF flat_shI64 he625 (by intro q hq; cases hq; exact ho616.ne_box (by assumption) rfl)
   clear hf596
   have hSlhS626 := hS626.lt
   have hs631 := (StpL.of_ext (B := fun i => i = g13 ∨ i = g588) hs622).trans' (Stp.toL he625 (by intro q hq; cases hq; exact Or.inl rfl))
   refine ⟨hs631, ?_⟩
   simp only [List.mem_cons, List.not_mem_nil, or_false] at hq628
   refine dr_narrow (S' := fun w' => StpL w624 w' _) (fun w' h' => hs631.trans' h') _ _ _ _ ?_
   have hs632 : Ext w624 w624 := Ext.rfl' _
   exact dr_listed (by kernel_rfl) (hk505 _ _ _ ⟨g588, q627, q590, n593, n594, rfl, (Sl.cons_ ha629 rfl rfl (Sl.cons_ ha629 rfl rfl (Sl.cons_ ha629 rfl rfl (Sl.cons_ ha629 rfl rfl (Sl.cons_ ha629 rfl rfl (Sl.cons_ ha629 rfl rfl (Sl.cons_ ha629 rfl rfl (Sl.cons_ ha629 rfl rfl (Sl.cons_ ha629 rfl rfl (Sl.nil_ ha629)))))))))), hx630, hf595, hS626, (hf597.fin (by omega) (by omega) (by omega)), hf598, hf599, (by omega), (by omega), (by omega), (by omega), (by omega), (by omega), (by omega)⟩)
  intro hk633
  refine dr_share (fun fr wl S => ∃ (q634 : Int) (q635 : Value) (n638 n639 : Nat), S = (fun w' => Stp wl w' (some g13)) ∧ Sl 40 fr [(3, .pointer (some (⟨w0.heap.size, 0, none⟩ : Addr))), (4, .pointer (some (⟨g13, 0, none⟩ : Addr))), (5, v20), (11, .pointer (some (⟨g13, 0, none⟩ : Addr))), (13, .int .i64 (q634 : Int)), (16, .pointer (some (⟨g13, 0, none⟩ : Addr))), (18, q635), (19, .pointer (some (⟨g13, 0, none⟩ : Addr))), (23, .pointer (some (⟨g13, 0, none⟩ : Addr)))] ∧ Ext w0 wl ∧ Box wl w0.heap.size 41 [.int .i64 (0 : Int), .int .i64 (0 : Int), St (([] : Str)), .int .i64 (0 : Int)] ∧ Src wl g13 w0.heap.size 81 ∧ Own shEnt 41 w11.heap.size w11.heap.size w21.heap.size wl v20 ((q24)) ∧ Own shStr 9 n638 n638 n639 wl q635 ([([97, 100, 97] : Str), ([98, 111] : Str), ([] : Str), ([90] : Str)]) ∧ ((0 : Int) ≤ q634) ∧ (q634 ≤ (100 : Int)) ∧ (0 ≤ q634) ∧ ((50 : Int) ≤ 1 → q634 = 0) ∧ (1 < (50 : Int) → q634 < (50 : Int)) ∧ (w41.heap.size ≤ n638) ∧ (n639 ≤ wl.heap.size) ∧ w41.heap.size ≤ wl.heap.size) 12 #[true, true, true, false, false, true, false, true, true, false, false, false, true, false, false, false, false, false, false] ?_ ?_
  ·
   rintro a653 w636 _ ⟨q634, q635, n638, n639, rfl, ha653, hx637, hf640, hf641, hf642, hf643, hg645, hg646, hg647, hg648, hg649, hg650, hg651, hzl644⟩
   have hzhx637 := hx637.size
   have hgl652 := hf641.lt
   have hs654 : Ext w636 w636 := Ext.rfl' _
   refine dr_two (i := 3) (j := 17) (by kernel_rfl) ?_ ?_
   ·
    refine po_eff ha653 rfl rfl rfl rfl (op_buildSlice (s := shI64) (xs := [(95 : Int), (99 : Int), (q634 : Int)]) (cs := [.int .i64 (95 : Int), .int .i64 (99 : Int), .int .i64 (q634 : Int)]) (vs := [(0, .int .i64 (95 : Int)), (1, .int .i64 (99 : Int)), (2, .int .i64 (q634 : Int))]) (S := fun _ => False) (le := w636.heap.size) ha653 rfl pos_shI64 Try.underlying45 ti2 rfl rfl (by decide) (by kernel_rfl) ⟨mk_shI64 ((95 : Int)) (by first | assumption | omega | (constructor <;> omega) | (dsimp only; omega) | (simp; done) | (simp; omega)), mk_shI64 ((99 : Int)) (by first | assumption | omega | (constructor <;> omega) | (dsimp only; omega) | (simp; done) | (simp; omega)), mk_shI64 ((q634 : Int)) (by first | assumption | omega | (constructor <;> omega) | (dsimp only; omega) | (simp; done) | (simp; omega)), rfl⟩ (fun _ h => h.elim)) ?_
    rintro v655 w656 ⟨ho657, he658, hob659⟩ a660 ha660; clear ha653 a653
    have hs661 := hs654.trans' he658
    have hx662 := hx637.trans' he658
    have hzhx662 := he658.size
    refine ⟨(Stp.of_ext hs661 _), ?_⟩
    replace hf640 := hf640.ext hs661
    replace hf641 := hf641.ext hs661
    replace hf642 := hf642.ext hs661
    replace hf643 := hf643.ext hs661
    refine dr_narrow (S' := fun w' => Stp w656 w' _) (fun w' h' => (Stp.of_ext hs661 _).trans' h') _ _ _ _ ?_
    have hs663 : Ext w656 w656 := Ext.rfl' _
    refine dr_two (i := 4) (j := 17) (by kernel_rfl) ?_ ?_
    ·
     refine po_callS ha660 rfl rfl rfl rfl (op_call ha660 rfl cb72 rfl) (c_spec_l01Pick _ g13 w0.heap.size v655 ([(95 : Int), (99 : Int), (q634 : Int)]) hf641 (ho657.rds pos_shI64) (by rintro ⟨_, _⟩; omega) (by first | assumption | omega | (constructor <;> omega) | (dsimp only; omega) | (simp; done) | (simp; omega))) ?_
     rintro v664 w665 he666 ⟨hS667, ⟨q668, hq669, rfl⟩⟩ a670 ha670; clear ha660 a660
     have hx671 := hx662.stp he666 (by intro q hq; cases hq; exact (by omega))
     have hzhx671 := he666.size
     replace hf640 := hf640.stp he666 (by intro q hq; cases hq; omega)
     first | replace hf642 := hf642.stp he666 (by intro q hq; cases hq; omega) | replace hf642 := hf642.stpF flat_shEnt he666 (by intro q hq; cases hq; exact hf642.ne_box (by assumption) rfl)
     first | replace hf643 := hf643.stp he666 (by intro q hq; cases hq; omega) | replace hf643 := hf643.stpF flat_shStr he666 (by intro q hq; cases hq; exact hf643.ne_box (by assumption) rfl)
     first | replace ho657 := ho657.stp he666 (by intro q hq; cases hq; omega) | replace ho657 := ho657.stpF flat_shI64 he666 (by intro q hq; cases hq; exact ho657.ne_box (by assumption) rfl)
     clear hf641
     have hSlhS667 := hS667.lt
     have hs672 := (Stp.of_ext hs663 (some g13)).trans' he666
     refine ⟨hs672, ?_⟩
     simp only [List.mem_cons, List.not_mem_nil, or_false] at hq669
     refine dr_narrow (S' := fun w' => Stp w665 w' _) (fun w' h' => hs672.trans' h') _ _ _ _ ?_
     have hs673 : Ext w665 w665 := Ext.rfl' _
     exact dr_listed (by kernel_rfl) (hk544 _ _ _ ⟨q668, q635, n638, n639, rfl, (Sl.cons_ ha670 rfl rfl (Sl.cons_ ha670 rfl rfl (Sl.cons_ ha670 rfl rfl (Sl.cons_ ha670 rfl rfl (Sl.cons_ ha670 rfl rfl (Sl.cons_ ha670 rfl rfl (Sl.cons_ ha670 rfl rfl (Sl.cons_ ha670 rfl rfl (Sl.nil_ ha670))))))))), hx671, hf640, hS667, (hf642.fin (by omega) (by omega) (by omega)), hf643, (by omega), (by omega), (by omega), (by omega), (by omega)⟩)
    ·
     refine po_eff ha660 rfl rfl rfl rfl (op_alloc' rfl ti41 rfl) ?_
     rintro _ w674 ⟨rfl, he675, hb676, hz677⟩ a678 ha678; clear ha660 a660
     have hs679 := hs663.trans' he675
     have hx680 := hx662.trans' he675
     have hzhx680 := he675.size
     refine ⟨(Stp.of_ext hs679 _), ?_⟩
     replace hf640 := hf640.ext hs679
     replace hf641 := hf641.ext hs679
     replace hf642 := hf642.ext hs679
     replace hf643 := hf643.ext hs679
     replace ho657 := ho657.ext hs679
     refine dr_narrow (S' := fun w' => StpL w674 w' (fun i => i = g13 ∨ i = w656.heap.size)) (fun w' h' => ((Stp.of_ext hs679 _)).freshL h' (by intro i hi; rcases hi with q | q <;> first | (exact Or.inl (congrArg some q.symm)) | (right; omega))) _ _ _ _ ?_
     have hs681 : Ext w674 w674 := Ext.rfl' _
     refine dr_one (i := 4) (by kernel_rfl) ?_
     refine po_callS ha678 rfl rfl rfl rfl (op_call ha678 rfl cb72 rfl) (c_spec_l01Pick _ g13 w0.heap.size v655 ([(95 : Int), (99 : Int), (q634 : Int)]) hf641 (ho657.rds pos_shI64) (by rintro ⟨_, _⟩; omega) (by first | assumption | omega | (constructor <;> omega) | (dsimp only; omega) | (simp; done) | (simp; omega))) ?_
     rintro v682 w683 he684 ⟨hS685, ⟨q686, hq687, rfl⟩⟩ a688 ha688; clear ha678 a678
     have hx689 := hx680.stp he684 (by intro q hq; cases hq; exact (by omega))
     have hzhx689 := he684.size
     replace hf640 := hf640.stp he684 (by intro q hq; cases hq; omega)
     first | replace hf642 := hf642.stp he684 (by intro q hq; cases hq; omega) | replace hf642 := hf642.stpF flat_shEnt he684 (by intro q hq; cases hq; exact hf642.ne_box (by assumption) rfl)
     first | replace hf643 := hf643.stp he684 (by intro q hq; cases hq; omega) | replace hf643 := hf643.stpF flat_shStr he684 (by intro q hq; cases hq; exact hf643.ne_box (by assumption) rfl)
     first | replace ho657 := ho657.stp he684 (by intro q hq; cases hq; omega) | replace ho657 := ho657.stpF flat_shI64 he684 (by intro q hq; cases hq; exact ho657.ne_box (by assumption) rfl)
     replace hb676 := hb676.stp he684 (by intro q hq; cases hq; omega)
     clear hf641
     have hSlhS685 := hS685.lt
     have hs690 := (StpL.of_ext (B := fun i => i = g13 ∨ i = w656.heap.size) hs681).trans' (Stp.toL he684 (by intro q hq; cases hq; exact Or.inl rfl))
     refine ⟨hs690, ?_⟩
     simp only [List.mem_cons, List.not_mem_nil, or_false] at hq687
     refine dr_narrow (S' := fun w' => StpL w683 w' _) (fun w' h' => hs690.trans' h') _ _ _ _ ?_
     have hs691 : Ext w683 w683 := Ext.rfl' _
     exact dr_listed (by kernel_rfl) (hk505 _ _ _ ⟨w656.heap.size, q686, q635, n638, n639, rfl, (Sl.cons_ ha688 rfl rfl (Sl.cons_ ha688 rfl rfl (Sl.cons_ ha688 rfl rfl (Sl.cons_ ha688 rfl rfl (Sl.cons_ ha688 rfl rfl (Sl.cons_ ha688 rfl rfl (Sl.cons_ ha688 rfl rfl (Sl.cons_ ha688 rfl rfl (Sl.cons_ ha688 rfl rfl (Sl.nil_ ha688)))))))))), hx689, hf640, hS685, (hf642.fin (by omega) (by omega) (by omega)), hb676, hf643, (by omega), (by omega), (by omega), (by omega), (by omega), (by omega), (by omega)⟩)
   ·
    refine po_eff ha653 rfl rfl rfl rfl (op_alloc' rfl ti41 rfl) ?_
    rintro _ w692 ⟨rfl, he693, hb694, hz695⟩ a696 ha696; clear ha653 a653
    have hs697 := hs654.trans' he693
    have hx698 := hx637.trans' he693
    have hzhx698 := he693.size
    refine ⟨(Stp.of_ext hs697 _), ?_⟩
    replace hf640 := hf640.ext hs697
    replace hf641 := hf641.ext hs697
    replace hf642 := hf642.ext hs697
    replace hf643 := hf643.ext hs697
    refine dr_narrow (S' := fun w' => StpL w692 w' (fun i => i = g13 ∨ i = w636.heap.size)) (fun w' h' => ((Stp.of_ext hs697 _)).freshL h' (by intro i hi; rcases hi with q | q <;> first | (exact Or.inl (congrArg some q.symm)) | (right; omega))) _ _ _ _ ?_
    have hs699 : Ext w692 w692 := Ext.rfl' _
    exact dr_listed (by kernel_rfl) (hk633 _ _ _ ⟨w636.heap.size, q634, q635, n638, n639, rfl, (Sl.cons_ ha696 rfl rfl (Sl.cons_ ha696 rfl rfl (Sl.cons_ ha696 rfl rfl (Sl.cons_ ha696 rfl rfl (Sl.cons_ ha696 rfl rfl (Sl.cons_ ha696 rfl rfl (Sl.cons_ ha696 rfl rfl (Sl.cons_ ha696 rfl rfl (Sl.cons_ ha696 rfl rfl (Sl.cons_ ha696 rfl rfl (Sl.nil_ ha696))))))))))), hx698, hf640, hf641, (hf642.fin (by omega) (by omega) (by omega)), hb694, hf643, (by omega), (by omega), (by omega), (by omega), (by first | assumption | omega | (simp only [List.mem_cons, List.not_mem_nil, or_false]; omega) | (constructor <;> omega)), (by omega), (by omega), (by omega), (by omega), (by omega)⟩)
  intro hk700
  refine dr_share (fun fr wl S => ∃ (g701 : Nat) (q702 : Int), S = (fun w' => StpL wl w' (fun i => i = g13 ∨ i = g701)) ∧ Sl 40 fr [(3, .pointer (some (⟨w0.heap.size, 0, none⟩ : Addr))), (4, .pointer (some (⟨g13, 0, none⟩ : Addr))), (5, v20), (6, .pointer (some (⟨g701, 0, none⟩ : Addr))), (11, .pointer (some (⟨g13, 0, none⟩ : Addr))), (13, .int .i64 (q702 : Int)), (16, .pointer (some (⟨g13, 0, none⟩ : Addr))), (19, .pointer (some (⟨g13, 0, none⟩ : Addr))), (23, .pointer (some (⟨g13, 0, none⟩ : Addr)))] ∧ Ext w0 wl ∧ Box wl w0.heap.size 41 [.int .i64 (0 : Int), .int .i64 (0 : Int), St (([] : Str)), .int .i64 (0 : Int)] ∧ Src wl g13 w0.heap.size 81 ∧ Own shEnt 41 w11.heap.size w11.heap.size w21.heap.size wl v20 ((q24)) ∧ Box wl g701 41 [.int .i64 (0 : Int), .int .i64 (0 : Int), St (([] : Str)), .int .i64 (0 : Int)] ∧ (w41.heap.size ≤ g701) ∧ ((0 : Int) ≤ q702) ∧ (q702 ≤ (100 : Int)) ∧ (0 ≤ q702) ∧ ((50 : Int) ≤ 1 → q702 = 0) ∧ (1 < (50 : Int) → q702 < (50 : Int)) ∧ w41.heap.size ≤ wl.heap.size) 12 #[true, true, true, false, false, true, false, false, true, false, false, false, true, false, false, false, false, true, false] ?_ ?_
  ·
   rintro a718 w703 _ ⟨g701, q702, rfl, ha718, hx704, hf705, hf706, hf707, hf708, hg710, hg711, hg712, hg713, hg714, hg715, hzl709⟩
   have hzhx704 := hx704.size
   have hgl716 := hf706.lt
   have hgl717 := hf708.lt
   have hs719 : Ext w703 w703 := Ext.rfl' _
   refine dr_two (i := 3) (j := 7) (by kernel_rfl) ?_ ?_
   ·
    refine po_eff ha718 rfl rfl rfl rfl (op_buildSlice (s := shI64) (xs := [(95 : Int), (99 : Int), (q702 : Int)]) (cs := [.int .i64 (95 : Int), .int .i64 (99 : Int), .int .i64 (q702 : Int)]) (vs := [(0, .int .i64 (95 : Int)), (1, .int .i64 (99 : Int)), (2, .int .i64 (q702 : Int))]) (S := fun _ => False) (le := w703.heap.size) ha718 rfl pos_shI64 Try.underlying45 ti2 rfl rfl (by decide) (by kernel_rfl) ⟨mk_shI64 ((95 : Int)) (by first | assumption | omega | (constructor <;> omega) | (dsimp only; omega) | (simp; done) | (simp; omega)), mk_shI64 ((99 : Int)) (by first | assumption | omega | (constructor <;> omega) | (dsimp only; omega) | (simp; done) | (simp; omega)), mk_shI64 ((q702 : Int)) (by first | assumption | omega | (constructor <;> omega) | (dsimp only; omega) | (simp; done) | (simp; omega)), rfl⟩ (fun _ h => h.elim)) ?_
    rintro v720 w721 ⟨ho722, he723, hob724⟩ a725 ha725; clear ha718 a718
    have hs726 := hs719.trans' he723
    have hx727 := hx704.trans' he723
    have hzhx727 := he723.size
    refine ⟨(StpL.of_ext hs726), ?_⟩
    replace hf705 := hf705.ext hs726
    replace hf706 := hf706.ext hs726
    replace hf707 := hf707.ext hs726
    replace hf708 := hf708.ext hs726
    refine dr_narrow (S' := fun w' => StpL w721 w' _) (fun w' h' => (StpL.of_ext hs726).trans' h') _ _ _ _ ?_
    have hs728 : Ext w721 w721 := Ext.rfl' _
    refine dr_two (i := 4) (j := 7) (by kernel_rfl) ?_ ?_
    ·
     refine po_callS ha725 rfl rfl rfl rfl (op_call ha725 rfl cb72 rfl) (c_spec_l01Pick _ g13 w0.heap.size v720 ([(95 : Int), (99 : Int), (q702 : Int)]) hf706 (ho722.rds pos_shI64) (by rintro ⟨_, _⟩; omega) (by first | assumption | omega | (constructor <;> omega) | (dsimp only; omega) | (simp; done) | (simp; omega))) ?_
     rintro v729 w730 he731 ⟨hS732, ⟨q733, hq734, rfl⟩⟩ a735 ha735; clear ha725 a725
     have hx736 := hx727.stp he731 (by intro q hq; cases hq; exact (by omega))
     have hzhx736 := he731.size
     replace hf705 := hf705.stp he731 (by intro q hq; cases hq; omega)
     first | replace hf707 := hf707.stp he731 (by intro q hq; cases hq; omega) | replace hf707 := hf707.stpF flat_shEnt he731 (by intro q hq; cases hq; exact hf707.ne_box (by assumption) rfl)
     replace hf708 := hf708.stp he731 (by intro q hq; cases hq; omega)
     first | replace ho722 := ho722.stp he731 (by intro q hq; cases hq; omega) | replace ho722 := ho722.stpF flat_shI64 he731 (by intro q hq; cases hq; exact ho722.ne_box (by assumption) rfl)
     clear hf706
     have hSlhS732 := hS732.lt
     have hs737 := (StpL.of_ext (B := fun i => i = g13 ∨ i = g701) hs728).trans' (Stp.toL he731 (by intro q hq; cases hq; exact Or.inl rfl))
     refine ⟨hs737, ?_⟩
     simp only [List.mem_cons, List.not_mem_nil, or_false] at hq734
     refine dr_narrow (S' := fun w' => StpL w730 w' _) (fun w' h' => hs737.trans' h') _ _ _ _ ?_
     have hs738 : Ext w730 w730 := Ext.rfl' _
     exact dr_listed (by kernel_rfl) (hk582 _ _ _ ⟨g701, q733, rfl, (Sl.cons_ ha735 rfl rfl (Sl.cons_ ha735 rfl rfl (Sl.cons_ ha735 rfl rfl (Sl.cons_ ha735 rfl rfl (Sl.cons_ ha735 rfl rfl (Sl.cons_ ha735 rfl rfl (Sl.cons_ ha735 rfl rfl (Sl.cons_ ha735 rfl rfl (Sl.nil_ ha735))))))))), hx736, hf705, hS732, (hf707.fin (by omega) (by omega) (by omega)), hf708, (by omega), (by omega), (by omega), (by omega)⟩)
    ·
     refine po_eff ha725 rfl rfl rfl rfl (op_buildSlice (s := shStr) (xs := [([97, 100, 97] : Str), ([98, 111] : Str), ([] : Str), ([90] : Str)]) (cs := [St (([97, 100, 97] : Str)), St (([98, 111] : Str)), St (([] : Str)), St (([90] : Str))]) (vs := [(0, St (([97, 100, 97] : Str))), (1, St (([98, 111] : Str))), (2, St (([] : Str))), (3, St (([90] : Str)))]) (S := fun _ => False) (le := w721.heap.size) ha725 rfl pos_shStr Try.underlying52 ti9 rfl rfl (by decide) (by kernel_rfl) ⟨mk_shStr (([97, 100, 97] : Str)) (by first | assumption | omega | (constructor <;> omega) | (dsimp only; omega) | (simp; done) | (simp; omega)), mk_shStr (([98, 111] : Str)) (by first | assumption | omega | (constructor <;> omega) | (dsimp only; omega) | (simp; done) | (simp; omega)), mk_shStr (([] : Str)) (by first | assumption | omega | (constructor <;> omega) | (dsimp only; omega) | (simp; done) | (simp; omega)), mk_shStr (([90] : Str)) (by first | assumption | omega | (constructor <;> omega) | (dsimp only; omega) | (simp; done) | (simp; omega)), rfl⟩ (fun _ h => h.elim)) ?_
     rintro v739 w740 ⟨ho741, he742, hob743⟩ a744 ha744; clear ha725 a725
     have hs745 := hs728.trans' he742
     have hx746 := hx727.trans' he742
     have hzhx746 := he742.size
     refine ⟨(StpL.of_ext hs745), ?_⟩
     replace hf705 := hf705.ext hs745
     replace hf706 := hf706.ext hs745
     replace hf707 := hf707.ext hs745
     replace hf708 := hf708.ext hs745
     replace ho722 := ho722.ext hs745
     refine dr_narrow (S' := fun w' => StpL w740 w' _) (fun w' h' => (StpL.of_ext hs745).trans' h') _ _ _ _ ?_
     have hs747 : Ext w740 w740 := Ext.rfl' _
     refine dr_one (i := 4) (by kernel_rfl) ?_
     refine po_callS ha744 rfl rfl rfl rfl (op_call ha744 rfl cb72 rfl) (c_spec_l01Pick _ g13 w0.heap.size v720 ([(95 : Int), (99 : Int), (q702 : Int)]) hf706 (ho722.rds pos_shI64) (by rintro ⟨_, _⟩; omega) (by first | assumption | omega | (constructor <;> omega) | (dsimp only; omega) | (simp; done) | (simp; omega))) ?_
     rintro v748 w749 he750 ⟨hS751, ⟨q752, hq753, rfl⟩⟩ a754 ha754; clear ha744 a744
     have hx755 := hx746.stp he750 (by intro q hq; cases hq; exact (by omega))
     have hzhx755 := he750.size
     replace hf705 := hf705.stp he750 (by intro q hq; cases hq; omega)
     first | replace hf707 := hf707.stp he750 (by intro q hq; cases hq; omega) | replace hf707 := hf707.stpF flat_shEnt he750 (by intro q hq; cases hq; exact hf707.ne_box (by assumption) rfl)
     replace hf708 := hf708.stp he750 (by intro q hq; cases hq; omega)
     first | replace ho722 := ho722.stp he750 (by intro q hq; cases hq; omega) | replace ho722 := ho722.stpF flat_shI64 he750 (by intro q hq; cases hq; exact ho722.ne_box (by assumption) rfl)
     first | replace ho741 := ho741.stp he750 (by intro q hq; cases hq; omega) | replace ho741 := ho741.stpF flat_shStr he750 (by intro q hq; cases hq; exact ho741.ne_box (by assumption) rfl)
     clear hf706
     have hSlhS751 := hS751.lt
     have hs756 := (StpL.of_ext (B := fun i => i = g13 ∨ i = g701) hs747).trans' (Stp.toL he750 (by intro q hq; cases hq; exact Or.inl rfl))
     refine ⟨hs756, ?_⟩
     simp only [List.mem_cons, List.not_mem_nil, or_false] at hq753
     refine dr_narrow (S' := fun w' => StpL w749 w' _) (fun w' h' => hs756.trans' h') _ _ _ _ ?_
     have hs757 : Ext w749 w749 := Ext.rfl' _
     exact dr_listed (by kernel_rfl) (hk505 _ _ _ ⟨g701, q752, v739, w721.heap.size, w740.heap.size, rfl, (Sl.cons_ ha754 rfl rfl (Sl.cons_ ha754 rfl rfl (Sl.cons_ ha754 rfl rfl (Sl.cons_ ha754 rfl rfl (Sl.cons_ ha754 rfl rfl (Sl.cons_ ha754 rfl rfl (Sl.cons_ ha754 rfl rfl (Sl.cons_ ha754 rfl rfl (Sl.cons_ ha754 rfl rfl (Sl.nil_ ha754)))))))))), hx755, hf705, hS751, (hf707.fin (by omega) (by omega) (by omega)), hf708, ho741, (by omega), (by omega), (by omega), (by omega), (by omega), (by omega), (by omega)⟩)
   ·
    refine po_eff ha718 rfl rfl rfl rfl (op_buildSlice (s := shStr) (xs := [([97, 100, 97] : Str), ([98, 111] : Str), ([] : Str), ([90] : Str)]) (cs := [St (([97, 100, 97] : Str)), St (([98, 111] : Str)), St (([] : Str)), St (([90] : Str))]) (vs := [(0, St (([97, 100, 97] : Str))), (1, St (([98, 111] : Str))), (2, St (([] : Str))), (3, St (([90] : Str)))]) (S := fun _ => False) (le := w703.heap.size) ha718 rfl pos_shStr Try.underlying52 ti9 rfl rfl (by decide) (by kernel_rfl) ⟨mk_shStr (([97, 100, 97] : Str)) (by first | assumption | omega | (constructor <;> omega) | (dsimp only; omega) | (simp; done) | (simp; omega)), mk_shStr (([98, 111] : Str)) (by first | assumption | omega | (constructor <;> omega) | (dsimp only; omega) | (simp; done) | (simp; omega)), mk_shStr (([] : Str)) (by first | assumption | omega | (constructor <;> omega) | (dsimp only; omega) | (simp; done) | (simp; omega)), mk_shStr (([90] : Str)) (by first | assumption | omega | (constructor <;> omega) | (dsimp only; omega) | (simp; done) | (simp; omega)), rfl⟩ (fun _ h => h.elim)) ?_
    rintro v758 w759 ⟨ho760, he761, hob762⟩ a763 ha763; clear ha718 a718
    have hs764 := hs719.trans' he761
    have hx765 := hx704.trans' he761
    have hzhx765 := he761.size
    refine ⟨(StpL.of_ext hs764), ?_⟩
    replace hf705 := hf705.ext hs764
    replace hf706 := hf706.ext hs764
    replace hf707 := hf707.ext hs764
    replace hf708 := hf708.ext hs764
    refine dr_narrow (S' := fun w' => StpL w759 w' _) (fun w' h' => (StpL.of_ext hs764).trans' h') _ _ _ _ ?_
    have hs766 : Ext w759 w759 := Ext.rfl' _
    exact dr_listed (by kernel_rfl) (hk633 _ _ _ ⟨g701, q702, v758, w703.heap.size, w759.heap.size, rfl, (Sl.cons_ ha763 rfl rfl (Sl.cons_ ha763 rfl rfl (Sl.cons_ ha763 rfl rfl (Sl.cons_ ha763 rfl rfl (Sl.cons_ ha763 rfl rfl (Sl.cons_ ha763 rfl rfl (Sl.cons_ ha763 rfl rfl (Sl.cons_ ha763 rfl rfl (Sl.cons_ ha763 rfl rfl (Sl.cons_ ha763 rfl rfl (Sl.nil_ ha763))))))))))), hx765, hf705, hf706, (hf707.fin (by omega) (by omega) (by omega)), hf708, ho760, (by omega), (by omega), (by omega), (by omega), (by first | assumption | omega | (simp only [List.mem_cons, List.not_mem_nil, or_false]; omega) | (constructor <;> omega)), (by omega), (by omega), (by omega), (by omega), (by omega)⟩)
  intro hk767
  refine dr_share (fun fr wl S => ∃ (g768 : Nat) (q769 : Value) (n772 n773 : Nat), S = (fun w' => StpL wl w' (fun i => i = g13 ∨ i = g768)) ∧ Sl 40 fr [(3, .pointer (some (⟨w0.heap.size, 0, none⟩ : Addr))), (4, .pointer (some (⟨g13, 0, none⟩ : Addr))), (5, v20), (6, .pointer (some (⟨g768, 0, none⟩ : Addr))), (11, .pointer (some (⟨g13, 0, none⟩ : Addr))), (12, .pointer (some (⟨g13, 0, none⟩ : Addr))), (16, .pointer (some (⟨g13, 0, none⟩ : Addr))), (18, q769), (19, .pointer (some (⟨g13, 0, none⟩ : Addr))), (23, .pointer (some (⟨g13, 0, none⟩ : Addr)))] ∧ Ext w0 wl ∧ Box wl w0.heap.size 41 [.int .i64 (0 : Int), .int .i64 (0 : Int), St (([] : Str)), .int .i64 (0 : Int)] ∧ Src wl g13 w0.heap.size 81 ∧ Own shEnt 41 w11.heap.size w11.heap.size w21.heap.size wl v20 ((q24)) ∧ Box wl g768 41 [.int .i64 (0 : Int), .int .i64 (0 : Int), St (([] : Str)), .int .i64 (0 : Int)] ∧ Own shStr 9 n772 n772 n773 wl q769 ([([97, 100, 97] : Str), ([98, 111] : Str), ([] : Str), ([90] : Str)]) ∧ (w41.heap.size ≤ g768) ∧ (w41.heap.size ≤ n772) ∧ (n773 ≤ wl.heap.size) ∧ (g768 < n772 ∨ n773 ≤ g768) ∧ w41.heap.size ≤ wl.heap.size) 12 #[true, true, false, false, false, true, false, true, true, false, false, false, true, false, false, false, false, true, false] ?_ ?_
  ·
   rintro a786 w770 _ ⟨g768, q769, n772, n773, rfl, ha786, hx771, hf774, hf775, hf776, hf777, hf778, hg780, hg781, hg782, hg783, hzl779⟩
   have hzhx771 := hx771.size
   have hgl784 := hf775.lt
   have hgl785 := hf777.lt
   have hs787 : Ext w770 w770 := Ext.rfl' _
   refine dr_one (i := 2) (by kernel_rfl) ?_
   refine po_callS ha786 rfl rfl rfl rfl (op_call ha786 rfl cb73 rfl) (c_spec_l01Next _ g13 w0.heap.size (50 : Int) hf775) ?_
   rintro v788 w789 he790 ⟨hS791, ⟨q792, hq793, hq794, hq795, rfl⟩⟩ a796 ha796; clear ha786 a786
   have hx797 := hx771.stp he790 (by intro q hq; cases hq; exact (by omega))
   have hzhx797 := he790.size
   replace hf774 := hf774.stp he790 (by intro q hq; cases hq; omega)
   first | replace hf776 := hf776.stp he790 (by intro q hq; cases hq; omega) | replace hf776 := hf776.stpF flat_shEnt he790 (by intro q hq; cases hq; exact hf776.ne_box (by assumption) rfl)
   replace hf777 := hf777.stp he790 (by intro q hq; cases hq; omega)
   first | replace hf778 := hf778.stp he790 (by intro q hq; cases hq; omega) | replace hf778 := hf778.stpF flat_shStr he790 (by intro q hq; cases hq; exact hf778.ne_box (by assumption) rfl)
   clear hf775
   have hSlhS791 := hS791.lt
   have hs798 := (StpL.of_ext (B := fun i => i = g13 ∨ i = g768) hs787).trans' (Stp.toL he790 (by intro q hq; cases hq; exact Or.inl rfl))
   refine ⟨hs798, ?_⟩
   refine dr_narrow (S' := fun w' => StpL w789 w' _) (fun w' h' => hs798.trans' h') _ _ _ _ ?_
   have hs799 : Ext w789 w789 := Ext.rfl' _
   exact dr_listed (by kernel_rfl) (hk633 _ _ _ ⟨g768, q792, q769, n772, n773, rfl, (Sl.cons_ ha796 rfl rfl (Sl.cons_ ha796 rfl rfl (Sl.cons_ ha796 rfl rfl (Sl.cons_ ha796 rfl rfl (Sl.cons_ ha796 rfl rfl (Sl.cons_ ha796 rfl rfl (Sl.cons_ ha796 rfl rfl (Sl.cons_ ha796 rfl rfl (Sl.cons_ ha796 rfl rfl (Sl.cons_ ha796 rfl rfl (Sl.nil_ ha796))))))))))), hx797, hf774, hS791, (hf776.fin (by omega) (by omega) (by omega)), hf777, hf778, (by omega), (by omega), (by omega), (by omega), (by first | assumption | omega | (simp only [List.mem_cons, List.not_mem_nil, or_false]; omega) | (constructor <;> omega)), (by omega), (by omega), (by omega), (by omega), (by omega)⟩)
  intro hk800
  refine dr_val (i := 0) ha29 rfl (by kernel_rfl) (by kernel_rfl) (by kernel_rfl) rfl rfl rfl (Stp.of_ext hs44 _) (fun w' hw' => op_move ha29 rfl rfl) ?_
  intro a801 ha801; clear ha29 a29
  refine dr_val (i := 1) ha801 rfl (by kernel_rfl) (by kernel_rfl) (by kernel_rfl) rfl rfl rfl (Stp.of_ext hs44 _) (fun w' hw' => op_move ha801 rfl rfl) ?_
  intro a802 ha802; clear ha801 a801
  refine dr_val (i := 5) ha802 rfl (by kernel_rfl) (by kernel_rfl) (by kernel_rfl) rfl rfl rfl (Stp.of_ext hs44 _) (fun w' hw' => op_move ha802 rfl rfl) ?_
  intro a803 ha803; clear ha802 a802
  refine dr_val (i := 8) ha803 rfl (by kernel_rfl) (by kernel_rfl) (by kernel_rfl) rfl rfl rfl (Stp.of_ext hs44 _) (fun w' hw' => op_move ha803 rfl rfl) ?_
  intro a804 ha804; clear ha803 a803
  refine dr_val (i := 12) ha804 rfl (by kernel_rfl) (by kernel_rfl) (by kernel_rfl) rfl rfl rfl (Stp.of_ext hs44 _) (fun w' hw' => op_move ha804 rfl rfl) ?_
  intro a805 ha805; clear ha804 a804
  refine dr_three (i := 2) (j := 7) (k := 17) (by kernel_rfl) ?_ ?_ ?_
  ·
   refine po_callS ha805 rfl rfl rfl rfl (op_call ha805 rfl cb73 rfl) (c_spec_l01Next _ g13 w0.heap.size (50 : Int) hS23) ?_
   rintro v806 w807 he808 ⟨hS809, ⟨q810, hq811, hq812, hq813, rfl⟩⟩ a814 ha814; clear ha805 a805
   have hx815 := hx43.stp he808 (by intro q hq; cases hq; exact (by omega))
   have hzhx815 := he808.size
   replace hb5 := hb5.stp he808 (by intro q hq; cases hq; omega)
   first | replace ho26 := ho26.stp he808 (by intro q hq; cases hq; omega) | replace ho26 := ho26.stpF flat_shEnt he808 (by intro q hq; cases hq; exact ho26.ne_box (by assumption) rfl)
   clear hS23
   have hSlhS809 := hS809.lt
   have hs816 := (Stp.of_ext hs44 (some g13)).trans' he808
   refine ⟨hs816, ?_⟩
   refine dr_narrow (S' := fun w' => Stp w807 w' _) (fun w' h' => hs816.trans' h') _ _ _ _ ?_
   have hs817 : Ext w807 w807 := Ext.rfl' _
   refine dr_three (i := 3) (j := 7) (k := 17) (by kernel_rfl) ?_ ?_ ?_
   ·
    refine po_eff ha814 rfl rfl rfl rfl (op_buildSlice (s := shI64) (xs := [(95 : Int), (99 : Int), (q810 : Int)]) (cs := [.int .i64 (95 : Int), .int .i64 (99 : Int), .int .i64 (q810 : Int)]) (vs := [(0, .int .i64 (95 : Int)), (1, .int .i64 (99 : Int)), (2, .int .i64 (q810 : Int))]) (S := fun _ => False) (le := w807.heap.size) ha814 rfl pos_shI64 Try.underlying45 ti2 rfl rfl (by decide) (by kernel_rfl) ⟨mk_shI64 ((95 : Int)) (by first | assumption | omega | (constructor <;> omega) | (dsimp only; omega) | (simp; done) | (simp; omega)), mk_shI64 ((99 : Int)) (by first | assumption | omega | (constructor <;> omega) | (dsimp only; omega) | (simp; done) | (simp; omega)), mk_shI64 ((q810 : Int)) (by first | assumption | omega | (constructor <;> omega) | (dsimp only; omega) | (simp; done) | (simp; omega)), rfl⟩ (fun _ h => h.elim)) ?_
    rintro v818 w819 ⟨ho820, he821, hob822⟩ a823 ha823; clear ha814 a814
    have hs824 := hs817.trans' he821
    have hx825 := hx815.trans' he821
    have hzhx825 := he821.size
    refine ⟨(Stp.of_ext hs824 _), ?_⟩
    replace hb5 := hb5.ext hs824
    replace ho26 := ho26.ext hs824
    replace hS809 := hS809.ext hs824
    refine dr_narrow (S' := fun w' => Stp w819 w' _) (fun w' h' => (Stp.of_ext hs824 _).trans' h') _ _ _ _ ?_
    have hs826 : Ext w819 w819 := Ext.rfl' _
    refine dr_three (i := 4) (j := 7) (k := 17) (by kernel_rfl) ?_ ?_ ?_
    ·
     refine po_callS ha823 rfl rfl rfl rfl (op_call ha823 rfl cb72 rfl) (c_spec_l01Pick _ g13 w0.heap.size v818 ([(95 : Int), (99 : Int), (q810 : Int)]) hS809 (ho820.rds pos_shI64) (by rintro ⟨_, _⟩; omega) (by first | assumption | omega | (constructor <;> omega) | (dsimp only; omega) | (simp; done) | (simp; omega))) ?_
     rintro v827 w828 he829 ⟨hS830, ⟨q831, hq832, rfl⟩⟩ a833 ha833; clear ha823 a823
     have hx834 := hx825.stp he829 (by intro q hq; cases hq; exact (by omega))
     have hzhx834 := he829.size
     replace hb5 := hb5.stp he829 (by intro q hq; cases hq; omega)
     first | replace ho26 := ho26.stp he829 (by intro q hq; cases hq; omega) | replace ho26 := ho26.stpF flat_shEnt he829 (by intro q hq; cases hq; exact ho26.ne_box (by assumption) rfl)
     first | replace ho820 := ho820.stp he829 (by intro q hq; cases hq; omega) | replace ho820 := ho820.stpF flat_shI64 he829 (by intro q hq; cases hq; exact ho820.ne_box (by assumption) rfl)
     clear hS809
     have hSlhS830 := hS830.lt
     have hs835 := (Stp.of_ext hs826 (some g13)).trans' he829
     refine ⟨hs835, ?_⟩
     simp only [List.mem_cons, List.not_mem_nil, or_false] at hq832
     refine dr_narrow (S' := fun w' => Stp w828 w' _) (fun w' h' => hs835.trans' h') _ _ _ _ ?_
     have hs836 : Ext w828 w828 := Ext.rfl' _
     refine dr_three (i := 6) (j := 7) (k := 17) (by kernel_rfl) ?_ ?_ ?_
     ·
      refine po_callS ha833 rfl rfl rfl rfl (op_call ha833 rfl cb73 rfl) (c_spec_l01Next _ g13 w0.heap.size (4 : Int) hS830) ?_
      rintro v837 w838 he839 ⟨hS840, ⟨q841, hq842, hq843, hq844, rfl⟩⟩ a845 ha845; clear ha833 a833
      have hx846 := hx834.stp he839 (by intro q hq; cases hq; exact (by omega))
      have hzhx846 := he839.size
      replace hb5 := hb5.stp he839 (by intro q hq; cases hq; omega)
      first | replace ho26 := ho26.stp he839 (by intro q hq; cases hq; omega) | replace ho26 := ho26.stpF flat_shEnt he839 (by intro q hq; cases hq; exact ho26.ne_box (by assumption) rfl)
      first | replace ho820 := ho820.stp he839 (by intro q hq; cases hq; omega) | replace ho820 := ho820.stpF flat_shI64 he839 (by intro q hq; cases hq; exact ho820.ne_box (by assumption) rfl)
      clear hS830
      have hSlhS840 := hS840.lt
      have hs847 := (Stp.of_ext hs836 (some g13)).trans' he839
      refine ⟨hs847, ?_⟩
      refine dr_narrow (S' := fun w' => Stp w838 w' _) (fun w' h' => hs847.trans' h') _ _ _ _ ?_
      have hs848 : Ext w838 w838 := Ext.rfl' _
      refine dr_three (i := 7) (j := 9) (k := 17) (by kernel_rfl) ?_ ?_ ?_
      ·
       refine po_eff ha845 rfl rfl rfl rfl (op_buildSlice (s := shStr) (xs := [([97, 100, 97] : Str), ([98, 111] : Str), ([] : Str), ([90] : Str)]) (cs := [St (([97, 100, 97] : Str)), St (([98, 111] : Str)), St (([] : Str)), St (([90] : Str))]) (vs := [(0, St (([97, 100, 97] : Str))), (1, St (([98, 111] : Str))), (2, St (([] : Str))), (3, St (([90] : Str)))]) (S := fun _ => False) (le := w838.heap.size) ha845 rfl pos_shStr Try.underlying52 ti9 rfl rfl (by decide) (by kernel_rfl) ⟨mk_shStr (([97, 100, 97] : Str)) (by first | assumption | omega | (constructor <;> omega) | (dsimp only; omega) | (simp; done) | (simp; omega)), mk_shStr (([98, 111] : Str)) (by first | assumption | omega | (constructor <;> omega) | (dsimp only; omega) | (simp; done) | (simp; omega)), mk_shStr (([] : Str)) (by first | assumption | omega | (constructor <;> omega) | (dsimp only; omega) | (simp; done) | (simp; omega)), mk_shStr (([90] : Str)) (by first | assumption | omega | (constructor <;> omega) | (dsimp only; omega) | (simp; done) | (simp; omega)), rfl⟩ (fun _ h => h.elim)) ?_
       rintro v849 w850 ⟨ho851, he852, hob853⟩ a854 ha854; clear ha845 a845
       have hs855 := hs848.trans' he852
       have hx856 := hx846.trans' he852
       have hzhx856 := he852.size
       refine ⟨(Stp.of_ext hs855 _), ?_⟩
       replace hb5 := hb5.ext hs855
       replace ho26 := ho26.ext hs855
       replace ho820 := ho820.ext hs855
       replace hS840 := hS840.ext hs855
       refine dr_narrow (S' := fun w' => Stp w850 w' _) (fun w' h' => (Stp.of_ext hs855 _).trans' h') _ _ _ _ ?_
       have hs857 : Ext w850 w850 := Ext.rfl' _
       exact dr_listed (by kernel_rfl) (hk425 _ _ _ ⟨q831, q841, v849, w838.heap.size, w850.heap.size, rfl, (Sl.cons_ ha854 rfl rfl (Sl.cons_ ha854 rfl rfl (Sl.cons_ ha854 rfl rfl (Sl.cons_ ha854 rfl rfl (Sl.cons_ ha854 rfl rfl (Sl.cons_ ha854 rfl rfl (Sl.cons_ ha854 rfl rfl (Sl.cons_ ha854 rfl rfl (Sl.nil_ ha854))))))))), hx856, hb5, hS840, (ho26.fin (by omega) (by omega) (by omega)), ho851, (by omega), (by omega), (by omega), (by omega), (by omega), (by first | assumption | omega | (simp only [List.mem_cons, List.not_mem_nil, or_false]; omega) | (constructor <;> omega)), (by omega), (by omega), (by omega), (by omega)⟩)
      ·
       refine po_callS ha845 rfl rfl rfl rfl (op_call ha845 rfl cb73 rfl) (c_spec_l01Next _ g13 w0.heap.size (4 : Int) hS840) ?_
       rintro v858 w859 he860 ⟨hS861, ⟨q862, hq863, hq864, hq865, rfl⟩⟩ a866 ha866; clear ha845 a845
       have hx867 := hx846.stp he860 (by intro q hq; cases hq; exact (by omega))
       have hzhx867 := he860.size
       replace hb5 := hb5.stp he860 (by intro q hq; cases hq; omega)
       first | replace ho26 := ho26.stp he860 (by intro q hq; cases hq; omega) | replace ho26 := ho26.stpF flat_shEnt he860 (by intro q hq; cases hq; exact ho26.ne_box (by assumption) rfl)
       first | replace ho820 := ho820.stp he860 (by intro q hq; cases hq; omega) | replace ho820 := ho820.stpF flat_shI64 he860 (by intro q hq; cases hq; exact ho820.ne_box (by assumption) rfl)
       clear hS840
       have hSlhS861 := hS861.lt
       have hs868 := (Stp.of_ext hs848 (some g13)).trans' he860
       refine ⟨hs868, ?_⟩
       refine dr_narrow (S' := fun w' => Stp w859 w' _) (fun w' h' => hs868.trans' h') _ _ _ _ ?_
       have hs869 : Ext w859 w859 := Ext.rfl' _
       refine dr_three (i := 7) (j := 13) (k := 17) (by kernel_rfl) ?_ ?_ ?_
       ·
        refine po_eff ha866 rfl rfl rfl rfl (op_buildSlice (s := shStr) (xs := [([97, 100, 97] : Str), ([98, 111] : Str), ([] : Str), ([90] : Str)]) (cs := [St (([97, 100, 97] : Str)), St (([98, 111] : Str)), St (([] : Str)), St (([90] : Str))]) (vs := [(0, St (([97, 100, 97] : Str))), (1, St (([98, 111] : Str))), (2, St (([] : Str))), (3, St (([90] : Str)))]) (S := fun _ => False) (le := w859.heap.size) ha866 rfl pos_shStr Try.underlying52 ti9 rfl rfl (by decide) (by kernel_rfl) ⟨mk_shStr (([97, 100, 97] : Str)) (by first | assumption | omega | (constructor <;> omega) | (dsimp only; omega) | (simp; done) | (simp; omega)), mk_shStr (([98, 111] : Str)) (by first | assumption | omega | (constructor <;> omega) | (dsimp only; omega) | (simp; done) | (simp; omega)), mk_shStr (([] : Str)) (by first | assumption | omega | (constructor <;> omega) | (dsimp only; omega) | (simp; done) | (simp; omega)), mk_shStr (([90] : Str)) (by first | assumption | omega | (constructor <;> omega) | (dsimp only; omega) | (simp; done) | (simp; omega)), rfl⟩ (fun _ h => h.elim)) ?_
        rintro v870 w871 ⟨ho872, he873, hob874⟩ a875 ha875; clear ha866 a866
        have hs876 := hs869.trans' he873
        have hx877 := hx867.trans' he873
        have hzhx877 := he873.size
        refine ⟨(Stp.of_ext hs876 _), ?_⟩
        replace hb5 := hb5.ext hs876
        replace ho26 := ho26.ext hs876
        replace ho820 := ho820.ext hs876
        replace hS861 := hS861.ext hs876
        refine dr_narrow (S' := fun w' => Stp w871 w' _) (fun w' h' => (Stp.of_ext hs876 _).trans' h') _ _ _ _ ?_
        have hs878 : Ext w871 w871 := Ext.rfl' _
        obtain ⟨x879, hx879⟩ := get_ex (xs := [([97, 100, 97] : Str), ([98, 111] : Str), ([] : Str), ([90] : Str)]) (j := ((q862 : Int)).toNat) (by first | omega | (simp only [List.length_cons, List.length_nil]; omega))
        obtain ⟨p880, c881, hi882, hc883, hr884, hs885⟩ := Rds.at_ (ho872.rds pos_shStr) hx879
        obtain ⟨rfl, b886⟩ := inv_shStr hr884
        obtain ⟨_, _⟩ : _ ∧ _ := hs885
        have hdlx879 := el_len 17 (by rfl) hx879
        refine dr_val (i := 10) ha875 rfl (by kernel_rfl) (by kernel_rfl) (by kernel_rfl) rfl rfl rfl (Stp.of_ext hs878 _) (fun w' hw' => op_indexAddr ha875 rfl Try.underlying52 ti9 rfl rfl (by omega) hi882) ?_
        intro a887 ha887; clear ha875 a875
        refine dr_val (i := 11) ha887 rfl (by kernel_rfl) (by kernel_rfl) (by kernel_rfl) rfl rfl rfl (Stp.of_ext hs878 _) (fun w' hw' => op_loadH ha887 rfl Try.underlying9 rfl rfl (hc883.stp hw' (by intro q hq; cases hq; omega)) rfl) ?_
        intro a888 ha888; clear ha887 a887
        exact dr_listed (by kernel_rfl) (hk256 _ _ _ ⟨q831, q841, x879, rfl, (Sl.cons_ ha888 rfl rfl (Sl.cons_ ha888 rfl rfl (Sl.cons_ ha888 rfl rfl (Sl.cons_ ha888 rfl rfl (Sl.cons_ ha888 rfl rfl (Sl.cons_ ha888 rfl rfl (Sl.cons_ ha888 rfl rfl (Sl.nil_ ha888)))))))), hx877, hb5, hS861, (ho26.fin (by omega) (by omega) (by omega)), (by omega), (by omega), (by omega), (by omega), (by omega), (by omega), (by first | assumption | omega | (simp only [List.mem_cons, List.not_mem_nil, or_false]; omega) | (constructor <;> omega)), (by omega), (by omega)⟩)
       ·
        refine po_callS ha866 rfl rfl rfl rfl (op_call ha866 rfl cb73 rfl) (c_spec_l01Next _ g13 w0.heap.size (30 : Int) hS861) ?_
        rintro v889 w890 he891 ⟨hS892, ⟨q893, hq894, hq895, hq896, rfl⟩⟩ a897 ha897; clear ha866 a866
        have hx898 := hx867.stp he891 (by intro q hq; cases hq; exact (by omega))
        have hzhx898 := he891.size
        replace hb5 := hb5.stp he891 (by intro q hq; cases hq; omega)
        first | replace ho26 := ho26.stp he891 (by intro q hq; cases hq; omega) | replace ho26 := ho26.stpF flat_shEnt he891 (by intro q hq; cases hq; exact ho26.ne_box (by assumption) rfl)
        first | replace ho820 := ho820.stp he891 (by intro q hq; cases hq; omega) | replace ho820 := ho820.stpF flat_shI64 he891 (by intro q hq; cases hq; exact ho820.ne_box (by assumption) rfl)
        clear hS861
        have hSlhS892 := hS892.lt
        have hs899 := (Stp.of_ext hs869 (some g13)).trans' he891
        refine ⟨hs899, ?_⟩
        refine dr_narrow (S' := fun w' => Stp w890 w' _) (fun w' h' => hs899.trans' h') _ _ _ _ ?_
        have hs900 : Ext w890 w890 := Ext.rfl' _
        refine dr_val (i := 14) ha897 rfl (by kernel_rfl) (by kernel_rfl) (by kernel_rfl) rfl rfl rfl (Stp.of_ext hs900 _) (fun w' hw' => (op_add ha897 rfl rfl rfl).int (IntWalk.i64_in _ (by omega))) ?_
        intro a901 ha901; clear ha897 a897
        refine dr_val (i := 15) ha901 rfl (by kernel_rfl) (by kernel_rfl) (by kernel_rfl) rfl rfl rfl (Stp.of_ext hs900 _) (fun w' hw' => (op_mul ha901 rfl rfl rfl).int (IntWalk.i64_in _ (by omega))) ?_
        intro a902 ha902; clear ha901 a901
        refine dr_two (i := 7) (j := 17) (by kernel_rfl) ?_ ?_
        ·
         refine po_eff ha902 rfl rfl rfl rfl (op_buildSlice (s := shStr) (xs := [([97, 100, 97] : Str), ([98, 111] : Str), ([] : Str), ([90] : Str)]) (cs := [St (([97, 100, 97] : Str)), St (([98, 111] : Str)), St (([] : Str)), St (([90] : Str))]) (vs := [(0, St (([97, 100, 97] : Str))), (1, St (([98, 111] : Str))), (2, St (([] : Str))), (3, St (([90] : Str)))]) (S := fun _ => False) (le := w890.heap.size) ha902 rfl pos_shStr Try.underlying52 ti9 rfl rfl (by decide) (by kernel_rfl) ⟨mk_shStr (([97, 100, 97] : Str)) (by first | assumption | omega | (constructor <;> omega) | (dsimp only; omega) | (simp; done) | (simp; omega)), mk_shStr (([98, 111] : Str)) (by first | assumption | omega | (constructor <;> omega) | (dsimp only; omega) | (simp; done) | (simp; omega)), mk_shStr (([] : Str)) (by first | assumption | omega | (constructor <;> omega) | (dsimp only; omega) | (simp; done) | (simp; omega)), mk_shStr (([90] : Str)) (by first | assumption | omega | (constructor <;> omega) | (dsimp only; omega) | (simp; done) | (simp; omega)), rfl⟩ (fun _ h => h.elim)) ?_
         rintro v903 w904 ⟨ho905, he906, hob907⟩ a908 ha908; clear ha902 a902
         have hs909 := hs900.trans' he906
         have hx910 := hx898.trans' he906
         have hzhx910 := he906.size
         refine ⟨(Stp.of_ext hs909 _), ?_⟩
         replace hb5 := hb5.ext hs909
         replace ho26 := ho26.ext hs909
         replace ho820 := ho820.ext hs909
         replace hS892 := hS892.ext hs909
         refine dr_narrow (S' := fun w' => Stp w904 w' _) (fun w' h' => (Stp.of_ext hs909 _).trans' h') _ _ _ _ ?_
         have hs911 : Ext w904 w904 := Ext.rfl' _
         obtain ⟨x912, hx912⟩ := get_ex (xs := [([97, 100, 97] : Str), ([98, 111] : Str), ([] : Str), ([90] : Str)]) (j := ((q862 : Int)).toNat) (by first | omega | (simp only [List.length_cons, List.length_nil]; omega))
         obtain ⟨p913, c914, hi915, hc916, hr917, hs918⟩ := Rds.at_ (ho905.rds pos_shStr) hx912
         obtain ⟨rfl, b919⟩ := inv_shStr hr917
         obtain ⟨_, _⟩ : _ ∧ _ := hs918
         have hdlx912 := el_len 17 (by rfl) hx912
         refine dr_val (i := 10) ha908 rfl (by kernel_rfl) (by kernel_rfl) (by kernel_rfl) rfl rfl rfl (Stp.of_ext hs911 _) (fun w' hw' => op_indexAddr ha908 rfl Try.underlying52 ti9 rfl rfl (by omega) hi915) ?_
         intro a920 ha920; clear ha908 a908
         refine dr_val (i := 11) ha920 rfl (by kernel_rfl) (by kernel_rfl) (by kernel_rfl) rfl rfl rfl (Stp.of_ext hs911 _) (fun w' hw' => op_loadH ha920 rfl Try.underlying9 rfl rfl (hc916.stp hw' (by intro q hq; cases hq; omega)) rfl) ?_
         intro a921 ha921; clear ha920 a920
         refine dr_val (i := 16) ha921 rfl (by kernel_rfl) (by kernel_rfl) (by kernel_rfl) rfl rfl rfl (Stp.of_ext hs911 _) (fun w' hw' => op_build (vs := [(0, .int .i64 (q831 : Int)), (1, .int .i64 (q841 : Int)), (2, St x912), (3, .int .i64 ((100 : Int) * ((1 : Int) + (q893 : Int))))]) (cs := #[.int .i64 (q831 : Int), .int .i64 (q841 : Int), St x912, .int .i64 ((100 : Int) * ((1 : Int) + (q893 : Int)))]) ha921 rfl Try.underlying41 ti41 bp41 rfl rfl) ?_
         intro a922 ha922; clear ha921 a921
         exact dr_listed (by kernel_rfl) (hk117 _ _ _ ⟨q831, q841, x912, q893, rfl, (Sl.cons_ ha922 rfl rfl (Sl.cons_ ha922 rfl rfl (Sl.cons_ ha922 rfl rfl (Sl.cons_ ha922 rfl rfl (Sl.nil_ ha922))))), hx910, hb5, hS892, (ho26.fin (by omega) (by omega) (by omega)), (by omega), (by omega), (by omega), (by omega), (by omega), (by omega), (by omega), (by omega), (by first | assumption | omega | (simp only [List.mem_cons, List.not_mem_nil, or_false]; omega) | (constructor <;> omega)), (by omega), (by omega), (by first | assumption | omega | (simp only [List.mem_cons, List.not_mem_nil, or_false]; omega) | (constructor <;> omega)), (by omega), (by omega)⟩)
        ·
         refine po_eff ha902 rfl rfl rfl rfl (op_alloc' rfl ti41 rfl) ?_
         rintro _ w923 ⟨rfl, he924, hb925, hz926⟩ a927 ha927; clear ha902 a902
         have hs928 := hs900.trans' he924
         have hx929 := hx898.trans' he924
         have hzhx929 := he924.size
         refine ⟨(Stp.of_ext hs928 _), ?_⟩
         replace hb5 := hb5.ext hs928
         replace ho26 := ho26.ext hs928
         replace ho820 := ho820.ext hs928
         replace hS892 := hS892.ext hs928
         refine dr_narrow (S' := fun w' => StpL w923 w' (fun i => i = g13 ∨ i = w890.heap.size)) (fun w' h' => ((Stp.of_ext hs928 _)).freshL h' (by intro i hi; rcases hi with q | q <;> first | (exact Or.inl (congrArg some q.symm)) | (right; omega))) _ _ _ _ ?_
         have hs930 : Ext w923 w923 := Ext.rfl' _
         exact dr_listed (by kernel_rfl) (hk212 _ _ _ ⟨w890.heap.size, q831, q841, q862, q893, rfl, (Sl.cons_ ha927 rfl rfl (Sl.cons_ ha927 rfl rfl (Sl.cons_ ha927 rfl rfl (Sl.cons_ ha927 rfl rfl (Sl.cons_ ha927 rfl rfl (Sl.cons_ ha927 rfl rfl (Sl.cons_ ha927 rfl rfl (Sl.cons_ ha927 rfl rfl (Sl.nil_ ha927))))))))), hx929, hb5, hS892, (ho26.fin (by omega) (by omega) (by omega)), hb925, (by omega), (by omega), (by omega), (by omega), (by omega), (by omega), (by omega), (by omega), (by omega), (by omega), (by first | assumption | omega | (simp only [List.mem_cons, List.not_mem_nil, or_false]; omega) | (constructor <;> omega)), (by omega), (by omega), (by first | assumption | omega | (simp only [List.mem_cons, List.not_mem_nil, or_false]; omega) | (constructor <;> omega)), (by omega), (by omega), (by first | assumption | omega | (simp only [List.mem_cons, List.not_mem_nil, or_false]; omega) | (constructor <;> omega)), (by omega), (by omega)⟩)
       ·
        refine po_eff ha866 rfl rfl rfl rfl (op_alloc' rfl ti41 rfl) ?_
        rintro _ w931 ⟨rfl, he932, hb933, hz934⟩ a935 ha935; clear ha866 a866
        have hs936 := hs869.trans' he932
        have hx937 := hx867.trans' he932
        have hzhx937 := he932.size
        refine ⟨(Stp.of_ext hs936 _), ?_⟩
        replace hb5 := hb5.ext hs936
        replace ho26 := ho26.ext hs936
        replace ho820 := ho820.ext hs936
        replace hS861 := hS861.ext hs936
        refine dr_narrow (S' := fun w' => StpL w931 w' (fun i => i = g13 ∨ i = w859.heap.size)) (fun w' h' => ((Stp.of_ext hs936 _)).freshL h' (by intro i hi; rcases hi with q | q <;> first | (exact Or.inl (congrArg some q.symm)) | (right; omega))) _ _ _ _ ?_
        have hs938 : Ext w931 w931 := Ext.rfl' _
        exact dr_listed (by kernel_rfl) (hk370 _ _ _ ⟨w859.heap.size, q831, q841, q862, rfl, (Sl.cons_ ha935 rfl rfl (Sl.cons_ ha935 rfl rfl (Sl.cons_ ha935 rfl rfl (Sl.cons_ ha935 rfl rfl (Sl.cons_ ha935 rfl rfl (Sl.cons_ ha935 rfl rfl (Sl.cons_ ha935 rfl rfl (Sl.cons_ ha935 rfl rfl (Sl.nil_ ha935))))))))), hx937, hb5, hS861, (ho26.fin (by omega) (by omega) (by omega)), hb933, (by omega), (by omega), (by omega), (by omega), (by omega), (by omega), (by omega), (by omega), (by first | assumption | omega | (simp only [List.mem_cons, List.not_mem_nil, or_false]; omega) | (constructor <;> omega)), (by omega), (by omega), (by first | assumption | omega | (simp only [List.mem_cons, List.not_mem_nil, or_false]; omega) | (constructor <;> omega)), (by omega), (by omega)⟩)
      ·
       refine po_eff ha845 rfl rfl rfl rfl (op_alloc' rfl ti41 rfl) ?_
       rintro _ w939 ⟨rfl, he940, hb941, hz942⟩ a943 ha943; clear ha845 a845
       have hs944 := hs848.trans' he940
       have hx945 := hx846.trans' he940
       have hzhx945 := he940.size
       refine ⟨(Stp.of_ext hs944 _), ?_⟩
       replace hb5 := hb5.ext hs944
       replace ho26 := ho26.ext hs944
       replace ho820 := ho820.ext hs944
       replace hS840 := hS840.ext hs944
       refine dr_narrow (S' := fun w' => StpL w939 w' (fun i => i = g13 ∨ i = w838.heap.size)) (fun w' h' => ((Stp.of_ext hs944 _)).freshL h' (by intro i hi; rcases hi with q | q <;> first | (exact Or.inl (congrArg some q.symm)) | (right; omega))) _ _ _ _ ?_
       have hs946 : Ext w939 w939 := Ext.rfl' _
       exact dr_listed (by kernel_rfl) (hk469 _ _ _ ⟨w838.heap.size, q831, q841, rfl, (Sl.cons_ ha943 rfl rfl (Sl.cons_ ha943 rfl rfl (Sl.cons_ ha943 rfl rfl (Sl.cons_ ha943 rfl rfl (Sl.cons_ ha943 rfl rfl (Sl.cons_ ha943 rfl rfl (Sl.cons_ ha943 rfl rfl (Sl.cons_ ha943 rfl rfl (Sl.nil_ ha943))))))))), hx945, hb5, hS840, (ho26.fin (by omega) (by omega) (by omega)), hb941, (by omega), (by omega), (by omega), (by omega), (by omega), (by omega), (by first | assumption | omega | (simp only [List.mem_cons, List.not_mem_nil, or_false]; omega) | (constructor <;> omega)), (by omega), (by omega)⟩)
     ·
      refine po_eff ha833 rfl rfl rfl rfl (op_buildSlice (s := shStr) (xs := [([97, 100, 97] : Str), ([98, 111] : Str), ([] : Str), ([90] : Str)]) (cs := [St (([97, 100, 97] : Str)), St (([98, 111] : Str)), St (([] : Str)), St (([90] : Str))]) (vs := [(0, St (([97, 100, 97] : Str))), (1, St (([98, 111] : Str))), (2, St (([] : Str))), (3, St (([90] : Str)))]) (S := fun _ => False) (le := w828.heap.size) ha833 rfl pos_shStr Try.underlying52 ti9 rfl rfl (by decide) (by kernel_rfl) ⟨mk_shStr (([97, 100, 97] : Str)) (by first | assumption | omega | (constructor <;> omega) | (dsimp only; omega) | (simp; done) | (simp; omega)), mk_shStr (([98, 111] : Str)) (by first | assumption | omega | (constructor <;> omega) | (dsimp only; omega) | (simp; done) | (simp; omega)), mk_shStr (([] : Str)) (by first | assumption | omega | (constructor <;> omega) | (dsimp only; omega) | (simp; done) | (simp; omega)), mk_shStr (([90] : Str)) (by first | assumption | omega | (constructor <;> omega) | (dsimp only; omega) | (simp; done) | (simp; omega)), rfl⟩ (fun _ h => h.elim)) ?_
      rintro v947 w948 ⟨ho949, he950, hob951⟩ a952 ha952; clear ha833 a833
      have hs953 := hs836.trans' he950
      have hx954 := hx834.trans' he950
      have hzhx954 := he950.size
      refine ⟨(Stp.of_ext hs953 _), ?_⟩
      replace hb5 := hb5.ext hs953
      replace ho26 := ho26.ext hs953
      replace ho820 := ho820.ext hs953
      replace hS830 := hS830.ext hs953
      refine dr_narrow (S' := fun w' => Stp w948 w' _) (fun w' h' => (Stp.of_ext hs953 _).trans' h') _ _ _ _ ?_
      have hs955 : Ext w948 w948 := Ext.rfl' _
      exact dr_listed (by kernel_rfl) (hk544 _ _ _ ⟨q831, v947, w828.heap.size, w948.heap.size, rfl, (Sl.cons_ ha952 rfl rfl (Sl.cons_ ha952 rfl rfl (Sl.cons_ ha952 rfl rfl (Sl.cons_ ha952 rfl rfl (Sl.cons_ ha952 rfl rfl (Sl.cons_ ha952 rfl rfl (Sl.cons_ ha952 rfl rfl (Sl.cons_ ha952 rfl rfl (Sl.nil_ ha952))))))))), hx954, hb5, hS830, (ho26.fin (by omega) (by omega) (by omega)), ho949, (by omega), (by omega), (by omega), (by omega), (by omega)⟩)
     ·
      refine po_eff ha833 rfl rfl rfl rfl (op_alloc' rfl ti41 rfl) ?_
      rintro _ w956 ⟨rfl, he957, hb958, hz959⟩ a960 ha960; clear ha833 a833
      have hs961 := hs836.trans' he957
      have hx962 := hx834.trans' he957
      have hzhx962 := he957.size
      refine ⟨(Stp.of_ext hs961 _), ?_⟩
      replace hb5 := hb5.ext hs961
      replace ho26 := ho26.ext hs961
      replace ho820 := ho820.ext hs961
      replace hS830 := hS830.ext hs961
      refine dr_narrow (S' := fun w' => StpL w956 w' (fun i => i = g13 ∨ i = w828.heap.size)) (fun w' h' => ((Stp.of_ext hs961 _)).freshL h' (by intro i hi; rcases hi with q | q <;> first | (exact Or.inl (congrArg some q.symm)) | (right; omega))) _ _ _ _ ?_
      have hs963 : Ext w956 w956 := Ext.rfl' _
      exact dr_listed (by kernel_rfl) (hk582 _ _ _ ⟨w828.heap.size, q831, rfl, (Sl.cons_ ha960 rfl rfl (Sl.cons_ ha960 rfl rfl (Sl.cons_ ha960 rfl rfl (Sl.cons_ ha960 rfl rfl (Sl.cons_ ha960 rfl rfl (Sl.cons_ ha960 rfl rfl (Sl.cons_ ha960 rfl rfl (Sl.cons_ ha960 rfl rfl (Sl.nil_ ha960))))))))), hx962, hb5, hS830, (ho26.fin (by omega) (by omega) (by omega)), hb958, (by omega), (by omega), (by omega), (by omega)⟩)
    ·
     refine po_eff ha823 rfl rfl rfl rfl (op_buildSlice (s := shStr) (xs := [([97, 100, 97] : Str), ([98, 111] : Str), ([] : Str), ([90] : Str)]) (cs := [St (([97, 100, 97] : Str)), St (([98, 111] : Str)), St (([] : Str)), St (([90] : Str))]) (vs := [(0, St (([97, 100, 97] : Str))), (1, St (([98, 111] : Str))), (2, St (([] : Str))), (3, St (([90] : Str)))]) (S := fun _ => False) (le := w819.heap.size) ha823 rfl pos_shStr Try.underlying52 ti9 rfl rfl (by decide) (by kernel_rfl) ⟨mk_shStr (([97, 100, 97] : Str)) (by first | assumption | omega | (constructor <;> omega) | (dsimp only; omega) | (simp; done) | (simp; omega)), mk_shStr (([98, 111] : Str)) (by first | assumption | omega | (constructor <;> omega) | (dsimp only; omega) | (simp; done) | (simp; omega)), mk_shStr (([] : Str)) (by first | assumption | omega | (constructor <;> omega) | (dsimp only; omega) | (simp; done) | (simp; omega)), mk_shStr (([90] : Str)) (by first | assumption | omega | (constructor <;> omega) | (dsimp only; omega) | (simp; done) | (simp; omega)), rfl⟩ (fun _ h => h.elim)) ?_
     rintro v964 w965 ⟨ho966, he967, hob968⟩ a969 ha969; clear ha823 a823
     have hs970 := hs826.trans' he967
     have hx971 := hx825.trans' he967
     have hzhx971 := he967.size
     refine ⟨(Stp.of_ext hs970 _), ?_⟩
     replace hb5 := hb5.ext hs970
     replace ho26 := ho26.ext hs970
     replace hS809 := hS809.ext hs970
     replace ho820 := ho820.ext hs970
     refine dr_narrow (S' := fun w' => Stp w965 w' _) (fun w' h' => (Stp.of_ext hs970 _).trans' h') _ _ _ _ ?_
     have hs972 : Ext w965 w965 := Ext.rfl' _
     refine dr_two (i := 4) (j := 17) (by kernel_rfl) ?_ ?_
     ·
      refine po_callS ha969 rfl rfl rfl rfl (op_call ha969 rfl cb72 rfl) (c_spec_l01Pick _ g13 w0.heap.size v818 ([(95 : Int), (99 : Int), (q810 : Int)]) hS809 (ho820.rds pos_shI64) (by rintro ⟨_, _⟩; omega) (by first | assumption | omega | (constructor <;> omega) | (dsimp only; omega) | (simp; done) | (simp; omega))) ?_
      rintro v973 w974 he975 ⟨hS976, ⟨q977, hq978, rfl⟩⟩ a979 ha979; clear ha969 a969
      have hx980 := hx971.stp he975 (by intro q hq; cases hq; exact (by omega))
      have hzhx980 := he975.size
      replace hb5 := hb5.stp he975 (by intro q hq; cases hq; omega)
      first | replace ho26 := ho26.stp he975 (by intro q hq; cases hq; omega) | replace ho26 := ho26.stpF flat_shEnt he975 (by intro q hq; cases hq; exact ho26.ne_box (by assumption) rfl)
      first | replace ho820 := ho820.stp he975 (by intro q hq; cases hq; omega) | replace ho820 := ho820.stpF flat_shI64 he975 (by intro q hq; cases hq; exact ho820.ne_box (by assumption) rfl)
      first | replace ho966 := ho966.stp he975 (by intro q hq; cases hq; omega) | replace ho966 := ho966.stpF flat_shStr he975 (by intro q hq; cases hq; exact ho966.ne_box (by assumption) rfl)
      clear hS809
      have hSlhS976 := hS976.lt
      have hs981 := (Stp.of_ext hs972 (some g13)).trans' he975
      refine ⟨hs981, ?_⟩
      simp only [List.mem_cons, List.not_mem_nil, or_false] at hq978
      refine dr_narrow (S' := fun w' => Stp w974 w' _) (fun w' h' => hs981.trans' h') _ _ _ _ ?_
      have hs982 : Ext w974 w974 := Ext.rfl' _
      exact dr_listed (by kernel_rfl) (hk544 _ _ _ ⟨q977, v964, w819.heap.size, w965.heap.size, rfl, (Sl.cons_ ha979 rfl rfl (Sl.cons_ ha979 rfl rfl (Sl.cons_ ha979 rfl rfl (Sl.cons_ ha979 rfl rfl (Sl.cons_ ha979 rfl rfl (Sl.cons_ ha979 rfl rfl (Sl.cons_ ha979 rfl rfl (Sl.cons_ ha979 rfl rfl (Sl.nil_ ha979))))))))), hx980, hb5, hS976, (ho26.fin (by omega) (by omega) (by omega)), ho966, (by omega), (by omega), (by omega), (by omega), (by omega)⟩)
     ·
      refine po_eff ha969 rfl rfl rfl rfl (op_alloc' rfl ti41 rfl) ?_
      rintro _ w983 ⟨rfl, he984, hb985, hz986⟩ a987 ha987; clear ha969 a969
      have hs988 := hs972.trans' he984
      have hx989 := hx971.trans' he984
      have hzhx989 := he984.size
      refine ⟨(Stp.of_ext hs988 _), ?_⟩
      replace hb5 := hb5.ext hs988
      replace ho26 := ho26.ext hs988
      replace hS809 := hS809.ext hs988
      replace ho820 := ho820.ext hs988
      replace ho966 := ho966.ext hs988
      refine dr_narrow (S' := fun w' => StpL w983 w' (fun i => i = g13 ∨ i = w965.heap.size)) (fun w' h' => ((Stp.of_ext hs988 _)).freshL h' (by intro i hi; rcases hi with q | q <;> first | (exact Or.inl (congrArg some q.symm)) | (right; omega))) _ _ _ _ ?_
      have hs990 : Ext w983 w983 := Ext.rfl' _
      refine dr_one (i := 4) (by kernel_rfl) ?_
      refine po_callS ha987 rfl rfl rfl rfl (op_call ha987 rfl cb72 rfl) (c_spec_l01Pick _ g13 w0.heap.size v818 ([(95 : Int), (99 : Int), (q810 : Int)]) hS809 (ho820.rds pos_shI64) (by rintro ⟨_, _⟩; omega) (by first | assumption | omega | (constructor <;> omega) | (dsimp only; omega) | (simp; done) | (simp; omega))) ?_
      rintro v991 w992 he993 ⟨hS994, ⟨q995, hq996, rfl⟩⟩ a997 ha997; clear ha987 a987
      have hx998 := hx989.stp he993 (by intro q hq; cases hq; exact (by omega))
      have hzhx998 := he993.size
      replace hb5 := hb5.stp he993 (by intro q hq; cases hq; omega)
      first | replace ho26 := ho26.stp he993 (by intro q hq; cases hq; omega) | replace ho26 := ho26.stpF flat_shEnt he993 (by intro q hq; cases hq; exact ho26.ne_box (by assumption) rfl)
      first | replace ho820 := ho820.stp he993 (by intro q hq; cases hq; omega) | replace ho820 := ho820.stpF flat_shI64 he993 (by intro q hq; cases hq; exact ho820.ne_box (by assumption) rfl)
      first | replace ho966 := ho966.stp he993 (by intro q hq; cases hq; omega) | replace ho966 := ho966.stpF flat_shStr he993 (by intro q hq; cases hq; exact ho966.ne_box (by assumption) rfl)
      replace hb985 := hb985.stp he993 (by intro q hq; cases hq; omega)
      clear hS809
      have hSlhS994 := hS994.lt
      have hs999 := (StpL.of_ext (B := fun i => i = g13 ∨ i = w965.heap.size) hs990).trans' (Stp.toL he993 (by intro q hq; cases hq; exact Or.inl rfl))
      refine ⟨hs999, ?_⟩
      simp only [List.mem_cons, List.not_mem_nil, or_false] at hq996
      refine dr_narrow (S' := fun w' => StpL w992 w' _) (fun w' h' => hs999.trans' h') _ _ _ _ ?_
      have hs1000 : Ext w992 w992 := Ext.rfl' _
      exact dr_listed (by kernel_rfl) (hk505 _ _ _ ⟨w965.heap.size, q995, v964, w819.heap.size, w965.heap.size, rfl, (Sl.cons_ ha997 rfl rfl (Sl.cons_ ha997 rfl rfl (Sl.cons_ ha997 rfl rfl (Sl.cons_ ha997 rfl rfl (Sl.cons_ ha997 rfl rfl (Sl.cons_ ha997 rfl rfl (Sl.cons_ ha997 rfl rfl (Sl.cons_ ha997 rfl rfl (Sl.cons_ ha997 rfl rfl (Sl.nil_ ha997)))))))))), hx998, hb5, hS994, (ho26.fin (by omega) (by omega) (by omega)), hb985, ho966, (by omega), (by omega), (by omega), (by omega), (by omega), (by omega), (by omega)⟩)
    ·
     refine po_eff ha823 rfl rfl rfl rfl (op_alloc' rfl ti41 rfl) ?_
     rintro _ w1001 ⟨rfl, he1002, hb1003, hz1004⟩ a1005 ha1005; clear ha823 a823
     have hs1006 := hs826.trans' he1002
     have hx1007 := hx825.trans' he1002
     have hzhx1007 := he1002.size
     refine ⟨(Stp.of_ext hs1006 _), ?_⟩
     replace hb5 := hb5.ext hs1006
     replace ho26 := ho26.ext hs1006
     replace hS809 := hS809.ext hs1006
     replace ho820 := ho820.ext hs1006
     refine dr_narrow (S' := fun w' => StpL w1001 w' (fun i => i = g13 ∨ i = w819.heap.size)) (fun w' h' => ((Stp.of_ext hs1006 _)).freshL h' (by intro i hi; rcases hi with q | q <;> first | (exact Or.inl (congrArg some q.symm)) | (right; omega))) _ _ _ _ ?_
     have hs1008 : Ext w1001 w1001 := Ext.rfl' _
     refine dr_two (i := 4) (j := 7) (by kernel_rfl) ?_ ?_
     ·
      refine po_callS ha1005 rfl rfl rfl rfl (op_call ha1005 rfl cb72 rfl) (c_spec_l01Pick _ g13 w0.heap.size v818 ([(95 : Int), (99 : Int), (q810 : Int)]) hS809 (ho820.rds pos_shI64) (by rintro ⟨_, _⟩; omega) (by first | assumption | omega | (constructor <;> omega) | (dsimp only; omega) | (simp; done) | (simp; omega))) ?_
      rintro v1009 w1010 he1011 ⟨hS1012, ⟨q1013, hq1014, rfl⟩⟩ a1015 ha1015; clear ha1005 a1005
      have hx1016 := hx1007.stp he1011 (by intro q hq; cases hq; exact (by omega))
      have hzhx1016 := he1011.size
      replace hb5 := hb5.stp he1011 (by intro q hq; cases hq; omega)
      first | replace ho26 := ho26.stp he1011 (by intro q hq; cases hq; omega) | replace ho26 := ho26.stpF flat_shEnt he1011 (by intro q hq; cases hq; exact ho26.ne_box (by assumption) rfl)
      first | replace ho820 := ho820.stp he1011 (by intro q hq; cases hq; omega) | replace ho820 := ho820.stpF flat_shI64 he1011 (by intro q hq; cases hq; exact ho820.ne_box (by assumption) rfl)
      replace hb1003 := hb1003.stp he1011 (by intro q hq; cases hq; omega)
      clear hS809
      have hSlhS1012 := hS1012.lt
      have hs1017 := (StpL.of_ext (B := fun i => i = g13 ∨ i = w819.heap.size) hs1008).trans' (Stp.toL he1011 (by intro q hq; cases hq; exact Or.inl rfl))
      refine ⟨hs1017, ?_⟩
      simp only [List.mem_cons, List.not_mem_nil, or_false] at hq1014
      refine dr_narrow (S' := fun w' => StpL w1010 w' _) (fun w' h' => hs1017.trans' h') _ _ _ _ ?_
      have hs1018 : Ext w1010 w1010 := Ext.rfl' _
      exact dr_listed (by kernel_rfl) (hk582 _ _ _ ⟨w819.heap.size, q1013, rfl, (Sl.cons_ ha1015 rfl rfl (Sl.cons_ ha1015 rfl rfl (Sl.cons_ ha1015 rfl rfl (Sl.cons_ ha1015 rfl rfl (Sl.cons_ ha1015 rfl rfl (Sl.cons_ ha1015 rfl rfl (Sl.cons_ ha1015 rfl rfl (Sl.cons_ ha1015 rfl rfl (Sl.nil_ ha1015))))))))), hx1016, hb5, hS1012, (ho26.fin (by omega) (by omega) (by omega)), hb1003, (by omega), (by omega), (by omega), (by omega)⟩)
     ·
      refine po_eff ha1005 rfl rfl rfl rfl (op_buildSlice (s := shStr) (xs := [([97, 100, 97] : Str), ([98, 111] : Str), ([] : Str), ([90] : Str)]) (cs := [St (([97, 100, 97] : Str)), St (([98, 111] : Str)), St (([] : Str)), St (([90] : Str))]) (vs := [(0, St (([97, 100, 97] : Str))), (1, St (([98, 111] : Str))), (2, St (([] : Str))), (3, St (([90] : Str)))]) (S := fun _ => False) (le := w1001.heap.size) ha1005 rfl pos_shStr Try.underlying52 ti9 rfl rfl (by decide) (by kernel_rfl) ⟨mk_shStr (([97, 100, 97] : Str)) (by first | assumption | omega | (constructor <;> omega) | (dsimp only; omega) | (simp; done) | (simp; omega)), mk_shStr (([98, 111] : Str)) (by first | assumption | omega | (constructor <;> omega) | (dsimp only; omega) | (simp; done) | (simp; omega)), mk_shStr (([] : Str)) (by first | assumption | omega | (constructor <;> omega) | (dsimp only; omega) | (simp; done) | (simp; omega)), mk_shStr (([90] : Str)) (by first | assumption | omega | (constructor <;> omega) | (dsimp only; omega) | (simp; done) | (simp; omega)), rfl⟩ (fun _ h => h.elim)) ?_
      rintro v1019 w1020 ⟨ho1021, he1022, hob1023⟩ a1024 ha1024; clear ha1005 a1005
      have hs1025 := hs1008.trans' he1022
      have hx1026 := hx1007.trans' he1022
      have hzhx1026 := he1022.size
      refine ⟨(StpL.of_ext hs1025), ?_⟩
      replace hb5 := hb5.ext hs1025
      replace ho26 := ho26.ext hs1025
      replace hS809 := hS809.ext hs1025
      replace ho820 := ho820.ext hs1025
      replace hb1003 := hb1003.ext hs1025
      refine dr_narrow (S' := fun w' => StpL w1020 w' _) (fun w' h' => (StpL.of_ext hs1025).trans' h') _ _ _ _ ?_
      have hs1027 : Ext w1020 w1020 := Ext.rfl' _
      refine dr_one (i := 4) (by kernel_rfl) ?_
      refine po_callS ha1024 rfl rfl rfl rfl (op_call ha1024 rfl cb72 rfl) (c_spec_l01Pick _ g13 w0.heap.size v818 ([(95 : Int), (99 : Int), (q810 : Int)]) hS809 (ho820.rds pos_shI64) (by rintro ⟨_, _⟩; omega) (by first | assumption | omega | (constructor <;> omega) | (dsimp only; omega) | (simp; done) | (simp; omega))) ?_
      rintro v1028 w1029 he1030 ⟨hS1031, ⟨q1032, hq1033, rfl⟩⟩ a1034 ha1034; clear ha1024 a1024
      have hx1035 := hx1026.stp he1030 (by intro q hq; cases hq; exact (by omega))
      have hzhx1035 := he1030.size
      replace hb5 := hb5.stp he1030 (by intro q hq; cases hq; omega)
      first | replace ho26 := ho26.stp he1030 (by intro q hq; cases hq; omega) | replace ho26 := ho26.stpF flat_shEnt he1030 (by intro q hq; cases hq; exact ho26.ne_box (by assumption) rfl)
      first | replace ho820 := ho820.stp he1030 (by intro q hq; cases hq; omega) | replace ho820 := ho820.stpF flat_shI64 he1030 (by intro q hq; cases hq; exact ho820.ne_box (by assumption) rfl)
      replace hb1003 := hb1003.stp he1030 (by intro q hq; cases hq; omega)
      first | replace ho1021 := ho1021.stp he1030 (by intro q hq; cases hq; omega) | replace ho1021 := ho1021.stpF flat_shStr he1030 (by intro q hq; cases hq; exact ho1021.ne_box (by assumption) rfl)
      clear hS809
      have hSlhS1031 := hS1031.lt
      have hs1036 := (StpL.of_ext (B := fun i => i = g13 ∨ i = w819.heap.size) hs1027).trans' (Stp.toL he1030 (by intro q hq; cases hq; exact Or.inl rfl))
      refine ⟨hs1036, ?_⟩
      simp only [List.mem_cons, List.not_mem_nil, or_false] at hq1033
      refine dr_narrow (S' := fun w' => StpL w1029 w' _) (fun w' h' => hs1036.trans' h') _ _ _ _ ?_
      have hs1037 : Ext w1029 w1029 := Ext.rfl' _
      exact dr_listed (by kernel_rfl) (hk505 _ _ _ ⟨w819.heap.size, q1032, v1019, w1001.heap.size, w1020.heap.size, rfl, (Sl.cons_ ha1034 rfl rfl (Sl.cons_ ha1034 rfl rfl (Sl.cons_ ha1034 rfl rfl (Sl.cons_ ha1034 rfl rfl (Sl.cons_ ha1034 rfl rfl (Sl.cons_ ha1034 rfl rfl (Sl.cons_ ha1034 rfl rfl (Sl.cons_ ha1034 rfl rfl (Sl.cons_ ha1034 rfl rfl (Sl.nil_ ha1034)))))))))), hx1035, hb5, hS1031, (ho26.fin (by omega) (by omega) (by omega)), hb1003, ho1021, (by omega), (by omega), (by omega), (by omega), (by omega), (by omega), (by omega)⟩)
   ·
    refine po_eff ha814 rfl rfl rfl rfl (op_buildSlice (s := shStr) (xs := [([97, 100, 97] : Str), ([98, 111] : Str), ([] : Str), ([90] : Str)]) (cs := [St (([97, 100, 97] : Str)), St (([98, 111] : Str)), St (([] : Str)), St (([90] : Str))]) (vs := [(0, St (([97, 100, 97] : Str))), (1, St (([98, 111] : Str))), (2, St (([] : Str))), (3, St (([90] : Str)))]) (S := fun _ => False) (le := w807.heap.size) ha814 rfl pos_shStr Try.underlying52 ti9 rfl rfl (by decide) (by kernel_rfl) ⟨mk_shStr (([97, 100, 97] : Str)) (by first | assumption | omega | (constructor <;> omega) | (dsimp only; omega) | (simp; done) | (simp; omega)), mk_shStr (([98, 111] : Str)) (by first | assumption | omega | (constructor <;> omega) | (dsimp only; omega) | (simp; done) | (simp; omega)), mk_shStr (([] : Str)) (by first | assumption | omega | (constructor <;> omega) | (dsimp only; omega) | (simp; done) | (simp; omega)), mk_shStr (([90] : Str)) (by first | assumption | omega | (constructor <;> omega) | (dsimp only; omega) | (simp; done) | (simp; omega)), rfl⟩ (fun _ h => h.elim)) ?_
    rintro v1038 w1039 ⟨ho1040, he1041, hob1042⟩ a1043 ha1043; clear ha814 a814
    have hs1044 := hs817.trans' he1041
    have hx1045 := hx815.trans' he1041
    have hzhx1045 := he1041.size
    refine ⟨(Stp.of_ext hs1044 _), ?_⟩
    replace hb5 := hb5.ext hs1044
    replace ho26 := ho26.ext hs1044
    replace hS809 := hS809.ext hs1044
    refine dr_narrow (S' := fun w' => Stp w1039 w' _) (fun w' h' => (Stp.of_ext hs1044 _).trans' h') _ _ _ _ ?_
    have hs1046 : Ext w1039 w1039 := Ext.rfl' _
    exact dr_listed (by kernel_rfl) (hk700 _ _ _ ⟨q810, v1038, w807.heap.size, w1039.heap.size, rfl, (Sl.cons_ ha1043 rfl rfl (Sl.cons_ ha1043 rfl rfl (Sl.cons_ ha1043 rfl rfl (Sl.cons_ ha1043 rfl rfl (Sl.cons_ ha1043 rfl rfl (Sl.cons_ ha1043 rfl rfl (Sl.cons_ ha1043 rfl rfl (Sl.cons_ ha1043 rfl rfl (Sl.cons_ ha1043 rfl rfl (Sl.nil_ ha1043)))))))))), hx1045, hb5, hS809, (ho26.fin (by omega) (by omega) (by omega)), ho1040, (by omega), (by omega), (by omega), (by first | assumption | omega | (simp only [List.mem_cons, List.not_mem_nil, or_false]; omega) | (constructor <;> omega)), (by omega), (by omega), (by omega), (by omega)⟩)
   ·
    refine po_eff ha814 rfl rfl rfl rfl (op_alloc' rfl ti41 rfl) ?_
    rintro _ w1047 ⟨rfl, he1048, hb1049, hz1050⟩ a1051 ha1051; clear ha814 a814
    have hs1052 := hs817.trans' he1048
    have hx1053 := hx815.trans' he1048
    have hzhx1053 := he1048.size
    refine ⟨(Stp.of_ext hs1052 _), ?_⟩
    replace hb5 := hb5.ext hs1052
    replace ho26 := ho26.ext hs1052
    replace hS809 := hS809.ext hs1052
    refine dr_narrow (S' := fun w' => StpL w1047 w' (fun i => i = g13 ∨ i = w807.heap.size)) (fun w' h' => ((Stp.of_ext hs1052 _)).freshL h' (by intro i hi; rcases hi with q | q <;> first | (exact Or.inl (congrArg some q.symm)) | (right; omega))) _ _ _ _ ?_
    have hs1054 : Ext w1047 w1047 := Ext.rfl' _
    exact dr_listed (by kernel_rfl) (hk767 _ _ _ ⟨w807.heap.size, q810, rfl, (Sl.cons_ ha1051 rfl rfl (Sl.cons_ ha1051 rfl rfl (Sl.cons_ ha1051 rfl rfl (Sl.cons_ ha1051 rfl rfl (Sl.cons_ ha1051 rfl rfl (Sl.cons_ ha1051 rfl rfl (Sl.cons_ ha1051 rfl rfl (Sl.cons_ ha1051 rfl rfl (Sl.cons_ ha1051 rfl rfl (Sl.nil_ ha1051)))))))))), hx1053, hb5, hS809, (ho26.fin (by omega) (by omega) (by omega)), hb1049, (by omega), (by omega), (by omega), (by omega), (by first | assumption | omega | (simp only [List.mem_cons, List.not_mem_nil, or_false]; omega) | (constructor <;> omega)), (by omega), (by omega)⟩)
  ·
   refine po_eff ha805 rfl rfl rfl rfl (op_buildSlice (s := shStr) (xs := [([97, 100, 97] : Str), ([98, 111] : Str), ([] : Str), ([90] : Str)]) (cs := [St (([97, 100, 97] : Str)), St (([98, 111] : Str)), St (([] : Str)), St (([90] : Str))]) (vs := [(0, St (([97, 100, 97] : Str))), (1, St (([98, 111] : Str))), (2, St (([] : Str))), (3, St (([90] : Str)))]) (S := fun _ => False) (le := w41.heap.size) ha805 rfl pos_shStr Try.underlying52 ti9 rfl rfl (by decide) (by kernel_rfl) ⟨mk_shStr (([97, 100, 97] : Str)) (by first | assumption | omega | (constructor <;> omega) | (dsimp only; omega) | (simp; done) | (simp; omega)), mk_shStr (([98, 111] : Str)) (by first | assumption | omega | (constructor <;> omega) | (dsimp only; omega) | (simp; done) | (simp; omega)), mk_shStr (([] : Str)) (by first | assumption | omega | (constructor <;> omega) | (dsimp only; omega) | (simp; done) | (simp; omega)), mk_shStr (([90] : Str)) (by first | assumption | omega | (constructor <;> omega) | (dsimp only; omega) | (simp; done) | (simp; omega)), rfl⟩ (fun _ h => h.elim)) ?_
   rintro v1055 w1056 ⟨ho1057, he1058, hob1059⟩ a1060 ha1060; clear ha805 a805
   have hs1061 := hs44.trans' he1058
   have hx1062 := hx43.trans' he1058
   have hzhx1062 := he1058.size
   refine ⟨(Stp.of_ext hs1061 _), ?_⟩
   replace hb5 := hb5.ext hs1061
   replace hS23 := hS23.ext hs1061
   replace ho26 := ho26.ext hs1061
   refine dr_narrow (S' := fun w' => Stp w1056 w' _) (fun w' h' => (Stp.of_ext hs1061 _).trans' h') _ _ _ _ ?_
   have hs1063 : Ext w1056 w1056 := Ext.rfl' _
   refine dr_two (i := 2) (j := 17) (by kernel_rfl) ?_ ?_
   ·
    refine po_callS ha1060 rfl rfl rfl rfl (op_call ha1060 rfl cb73 rfl) (c_spec_l01Next _ g13 w0.heap.size (50 : Int) hS23) ?_
    rintro v1064 w1065 he1066 ⟨hS1067, ⟨q1068, hq1069, hq1070, hq1071, rfl⟩⟩ a1072 ha1072; clear ha1060 a1060
    have hx1073 := hx1062.stp he1066 (by intro q hq; cases hq; exact (by omega))
    have hzhx1073 := he1066.size
    replace hb5 := hb5.stp he1066 (by intro q hq; cases hq; omega)
    first | replace ho26 := ho26.stp he1066 (by intro q hq; cases hq; omega) | replace ho26 := ho26.stpF flat_shEnt he1066 (by intro q hq; cases hq; exact ho26.ne_box (by assumption) rfl)
    first | replace ho1057 := ho1057.stp he1066 (by intro q hq; cases hq; omega) | replace ho1057 := ho1057.stpF flat_shStr he1066 (by intro q hq; cases hq; exact ho1057.ne_box (by assumption) rfl)
    clear hS23
    have hSlhS1067 := hS1067.lt
    have hs1074 := (Stp.of_ext hs1063 (some g13)).trans' he1066
    refine ⟨hs1074, ?_⟩
    refine dr_narrow (S' := fun w' => Stp w1065 w' _) (fun w' h' => hs1074.trans' h') _ _ _ _ ?_
    have hs1075 : Ext w1065 w1065 := Ext.rfl' _
    exact dr_listed (by kernel_rfl) (hk700 _ _ _ ⟨q1068, v1055, w41.heap.size, w1056.heap.size, rfl, (Sl.cons_ ha1072 rfl rfl (Sl.cons_ ha1072 rfl rfl (Sl.cons_ ha1072 rfl rfl (Sl.cons_ ha1072 rfl rfl (Sl.cons_ ha1072 rfl rfl (Sl.cons_ ha1072 rfl rfl (Sl.cons_ ha1072 rfl rfl (Sl.cons_ ha1072 rfl rfl (Sl.cons_ ha1072 rfl rfl (Sl.nil_ ha1072)))))))))), hx1073, hb5, hS1067, (ho26.fin (by omega) (by omega) (by omega)), ho1057, (by omega), (by omega), (by omega), (by first | assumption | omega | (simp only [List.mem_cons, List.not_mem_nil, or_false]; omega) | (constructor <;> omega)), (by omega), (by omega), (by omega), (by omega)⟩)
   ·
    refine po_eff ha1060 rfl rfl rfl rfl (op_alloc' rfl ti41 rfl) ?_
    rintro _ w1076 ⟨rfl, he1077, hb1078, hz1079⟩ a1080 ha1080; clear ha1060 a1060
    have hs1081 := hs1063.trans' he1077
    have hx1082 := hx1062.trans' he1077
    have hzhx1082 := he1077.size
    refine ⟨(Stp.of_ext hs1081 _), ?_⟩
    replace hb5 := hb5.ext hs1081
    replace hS23 := hS23.ext hs1081
    replace ho26 := ho26.ext hs1081
    replace ho1057 := ho1057.ext hs1081
    refine dr_narrow (S' := fun w' => StpL w1076 w' (fun i => i = g13 ∨ i = w1056.heap.size)) (fun w' h' => ((Stp.of_ext hs1081 _)).freshL h' (by intro i hi; rcases hi with q | q <;> first | (exact Or.inl (congrArg some q.symm)) | (right; omega))) _ _ _ _ ?_
    have hs1083 : Ext w1076 w1076 := Ext.rfl' _
    exact dr_listed (by kernel_rfl) (hk800 _ _ _ ⟨w1056.heap.size, v1055, w41.heap.size, w1056.heap.size, rfl, (Sl.cons_ ha1080 rfl rfl (Sl.cons_ ha1080 rfl rfl (Sl.cons_ ha1080 rfl rfl (Sl.cons_ ha1080 rfl rfl (Sl.cons_ ha1080 rfl rfl (Sl.cons_ ha1080 rfl rfl (Sl.cons_ ha1080 rfl rfl (Sl.cons_ ha1080 rfl rfl (Sl.cons_ ha1080 rfl rfl (Sl.cons_ ha1080 rfl rfl (Sl.nil_ ha1080))))))))))), hx1082, hb5, hS23, (ho26.fin (by omega) (by omega) (by omega)), hb1078, ho1057, (by omega), (by omega), (by omega), (by omega), (by omega)⟩)
  ·
   refine po_eff ha805 rfl rfl rfl rfl (op_alloc' rfl ti41 rfl) ?_
   rintro _ w1084 ⟨rfl, he1085, hb1086, hz1087⟩ a1088 ha1088; clear ha805 a805
   have hs1089 := hs44.trans' he1085
   have hx1090 := hx43.trans' he1085
   have hzhx1090 := he1085.size
   refine ⟨(Stp.of_ext hs1089 _), ?_⟩
   replace hb5 := hb5.ext hs1089
   replace hS23 := hS23.ext hs1089
   replace ho26 := ho26.ext hs1089
   refine dr_narrow (S' := fun w' => StpL w1084 w' (fun i => i = g13 ∨ i = w41.heap.size)) (fun w' h' => ((Stp.of_ext hs1089 _)).freshL h' (by intro i hi; rcases hi with q | q <;> first | (exact Or.inl (congrArg some q.symm)) | (right; omega))) _ _ _ _ ?_
   have hs1091 : Ext w1084 w1084 := Ext.rfl' _
   refine dr_two (i := 2) (j := 7) (by kernel_rfl) ?_ ?_
   ·
    refine po_callS ha1088 rfl rfl rfl rfl (op_call ha1088 rfl cb73 rfl) (c_spec_l01Next _ g13 w0.heap.size (50 : Int) hS23) ?_
    rintro v1092 w1093 he1094 ⟨hS1095, ⟨q1096, hq1097, hq1098, hq1099, rfl⟩⟩ a1100 ha1100; clear ha1088 a1088
    have hx1101 := hx1090.stp he1094 (by intro q hq; cases hq; exact (by omega))
    have hzhx1101 := he1094.size
    replace hb5 := hb5.stp he1094 (by intro q hq; cases hq; omega)
    first | replace ho26 := ho26.stp he1094 (by intro q hq; cases hq; omega) | replace ho26 := ho26.stpF flat_shEnt he1094 (by intro q hq; cases hq; exact ho26.ne_box (by assumption) rfl)
    replace hb1086 := hb1086.stp he1094 (by intro q hq; cases hq; omega)
    clear hS23
    have hSlhS1095 := hS1095.lt
    have hs1102 := (StpL.of_ext (B := fun i => i = g13 ∨ i = w41.heap.size) hs1091).trans' (Stp.toL he1094 (by intro q hq; cases hq; exact Or.inl rfl))
    refine ⟨hs1102, ?_⟩
    refine dr_narrow (S' := fun w' => StpL w1093 w' _) (fun w' h' => hs1102.trans' h') _ _ _ _ ?_
    have hs1103 : Ext w1093 w1093 := Ext.rfl' _
    exact dr_listed (by kernel_rfl) (hk767 _ _ _ ⟨w41.heap.size, q1096, rfl, (Sl.cons_ ha1100 rfl rfl (Sl.cons_ ha1100 rfl rfl (Sl.cons_ ha1100 rfl rfl (Sl.cons_ ha1100 rfl rfl (Sl.cons_ ha1100 rfl rfl (Sl.cons_ ha1100 rfl rfl (Sl.cons_ ha1100 rfl rfl (Sl.cons_ ha1100 rfl rfl (Sl.cons_ ha1100 rfl rfl (Sl.nil_ ha1100)))))))))), hx1101, hb5, hS1095, (ho26.fin (by omega) (by omega) (by omega)), hb1086, (by omega), (by omega), (by omega), (by omega), (by first | assumption | omega | (simp only [List.mem_cons, List.not_mem_nil, or_false]; omega) | (constructor <;> omega)), (by omega), (by omega)⟩)
   ·
    refine po_eff ha1088 rfl rfl rfl rfl (op_buildSlice (s := shStr) (xs := [([97, 100, 97] : Str), ([98, 111] : Str), ([] : Str), ([90] : Str)]) (cs := [St (([97, 100, 97] : Str)), St (([98, 111] : Str)), St (([] : Str)), St (([90] : Str))]) (vs := [(0, St (([97, 100, 97] : Str))), (1, St (([98, 111] : Str))), (2, St (([] : Str))), (3, St (([90] : Str)))]) (S := fun _ => False) (le := w1084.heap.size) ha1088 rfl pos_shStr Try.underlying52 ti9 rfl rfl (by decide) (by kernel_rfl) ⟨mk_shStr (([97, 100, 97] : Str)) (by first | assumption | omega | (constructor <;> omega) | (dsimp only; omega) | (simp; done) | (simp; omega)), mk_shStr (([98, 111] : Str)) (by first | assumption | omega | (constructor <;> omega) | (dsimp only; omega) | (simp; done) | (simp; omega)), mk_shStr (([] : Str)) (by first | assumption | omega | (constructor <;> omega) | (dsimp only; omega) | (simp; done) | (simp; omega)), mk_shStr (([90] : Str)) (by first | assumption | omega | (constructor <;> omega) | (dsimp only; omega) | (simp; done) | (simp; omega)), rfl⟩ (fun _ h => h.elim)) ?_
    rintro v1104 w1105 ⟨ho1106, he1107, hob1108⟩ a1109 ha1109; clear ha1088 a1088
    have hs1110 := hs1091.trans' he1107
    have hx1111 := hx1090.trans' he1107
    have hzhx1111 := he1107.size
    refine ⟨(StpL.of_ext hs1110), ?_⟩
    replace hb5 := hb5.ext hs1110
    replace hS23 := hS23.ext hs1110
    replace ho26 := ho26.ext hs1110
    replace hb1086 := hb1086.ext hs1110
    refine dr_narrow (S' := fun w' => StpL w1105 w' _) (fun w' h' => (StpL.of_ext hs1110).trans' h') _ _ _ _ ?_
    have hs1112 : Ext w1105 w1105 := Ext.rfl' _
    exact dr_listed (by kernel_rfl) (hk800 _ _ _ ⟨w41.heap.size, v1104, w1084.heap.size, w1105.heap.size, rfl, (Sl.cons_ ha1109 rfl rfl (Sl.cons_ ha1109 rfl rfl (Sl.cons_ ha1109 rfl rfl (Sl.cons_ ha1109 rfl rfl (Sl.cons_ ha1109 rfl rfl (Sl.cons_ ha1109 rfl rfl (Sl.cons_ ha1109 rfl rfl (Sl.cons_ ha1109 rfl rfl (Sl.cons_ ha1109 rfl rfl (Sl.cons_ ha1109 rfl rfl (Sl.nil_ ha1109))))))))))), hx1111, hb5, hS23, (ho26.fin (by omega) (by omega) (by omega)), hb1086, ho1106, (by omega), (by omega), (by omega), (by omega), (by omega)⟩)
 ·
  clear ha29 a29
  rintro a1113 w35 ⟨g30, q31, q32, q33, q34, ha1113, hx36, hf37, hf38, hf39, hf40, hg1115, hg1116, hg1117, hg1118, hg1119, hg1120, hg1121, hg1122, hzl1114⟩
  have hzhx36 := hx36.size
  have hgl1123 := hf38.lt
  have hgl1124 := hf40.lt
  refine wp_seq ?_
  refine wp_seq ?_
  refine wp_region_lit ?_
  refine wl_val ha1113 rfl rfl rfl (op_fieldAddr (sz := 0) ha1113 rfl Try.underlying41 rfl rfl ti2 rfl) ?_
  intro a1125 ha1125; clear ha1113 a1113
  refine wl_val ha1125 rfl rfl rfl (op_loadF (off := 1) ha1125 rfl Try.underlying2 rfl rfl hf40.cells rfl) ?_
  intro a1126 ha1126; clear ha1125 a1125
  refine wl_val ha1126 rfl rfl rfl (op_eql ha1126 rfl rfl rfl) ?_
  intro a1127 ha1127; clear ha1126 a1126
  refine wl_val ha1127 rfl rfl rfl (op_move ha1127 rfl rfl) ?_
  intro a1128 ha1128; clear ha1127 a1127
  by_cases c1129 : (q32 : Int) = (3 : Int)
  ·
   rw [decide_eq_true c1129] at ha1128
   refine wl_val ha1128 rfl rfl rfl (op_move ha1128 rfl rfl) ?_
   intro a1130 ha1130; clear ha1128 a1128
   refine wl_callS ha1130 rfl rfl rfl (op_call ha1130 rfl cb73 rfl) (c_spec_l01Next _ g13 w0.heap.size (6 : Int) hf38) ?_
   rintro v1131 w1132 he1133 ⟨hS1134, ⟨q1135, hq1136, hq1137, hq1138, rfl⟩⟩ a1139 ha1139; clear ha1130 a1130
   have hx1140 := hx36.stp he1133 (by intro q hq; cases hq; exact (by omega))
   have hzhx1140 := he1133.size
   replace hf37 := hf37.stp he1133 (by intro q hq; cases hq; omega)
   first | replace hf39 := hf39.stp he1133 (by intro q hq; cases hq; omega) | replace hf39 := hf39.stpF flat_shEnt he1133 (by intro q hq; cases hq; exact hf39.ne_box (by assumption) rfl)
   replace hf40 := hf40.stp he1133 (by intro q hq; cases hq; omega)
   clear hf38
   have hSlhS1134 := hS1134.lt
   refine wl_val ha1139 rfl rfl rfl (op_gtr ha1139 rfl rfl rfl) ?_
   intro a1141 ha1141; clear ha1139 a1139
   refine wl_val ha1141 rfl rfl rfl (op_pick_t ha1141 rfl rfl rfl) ?_
   intro a1142 ha1142; clear ha1141 a1141
   refine wpList_nil ?_
   refine then_n ?_
   by_cases c1143 : (0 : Int) < (q1135 : Int)
   ·
    rw [decide_eq_true c1143] at ha1142
    refine cond_t ha1142 rfl ?_
    refine wp_seq ?_
    clear hS1134
    refine wp_region_lit ?_
    refine wl_val ha1142 rfl rfl rfl (op_fieldAddr (sz := 0) ha1142 rfl Try.underlying41 rfl rfl ti9 rfl) ?_
    intro a1144 ha1144; clear ha1142 a1142
    refine wl_effS ha1144 rfl rfl (op_store' (off := 2) ha1144 rfl ti9 rfl rfl hf40 rfl rfl (by simp [Value.oneCell']) (Nat.le_of_ble_eq_true rfl)) ?_
    rintro w1145 ⟨hb1147, hst1146, hz1148⟩
    have hx1149 := hx1140.stp hst1146 (by intro q hq; cases hq; exact (by omega))
    have hzhx1149 := hst1146.size
    replace hf37 := hf37.stp hst1146 (by intro q hq; cases hq; omega)
    first | replace hf39 := hf39.stp hst1146 (by intro q hq; cases hq; omega) | replace hf39 := hf39.stpF flat_shEnt hst1146 (by intro q hq; cases hq; exact hf39.ne_box (by assumption) rfl)
    clear hf40
    refine wpList_nil ?_
    refine then_n ?_
    refine wp_region_lit ?_
    refine wl_val ha1144 rfl rfl rfl (op_fieldAddr (sz := 0) ha1144 rfl Try.underlying41 rfl rfl ti2 rfl) ?_
    intro a1150 ha1150; clear ha1144 a1144
    refine wl_effS ha1150 rfl rfl (op_store' (off := 3) ha1150 rfl ti2 rfl rfl hb1147 rfl rfl (by simp [Value.oneCell']) (Nat.le_of_ble_eq_true rfl)) ?_
    rintro w1151 ⟨hb1153, hst1152, hz1154⟩
    have hx1155 := hx1149.stp hst1152 (by intro q hq; cases hq; exact (by omega))
    have hzhx1155 := hst1152.size
    replace hf37 := hf37.stp hst1152 (by intro q hq; cases hq; omega)
    first | replace hf39 := hf39.stp hst1152 (by intro q hq; cases hq; omega) | replace hf39 := hf39.stpF flat_shEnt hst1152 (by intro q hq; cases hq; exact hf39.ne_box (by assumption) rfl)
    clear hb1147
    refine wpList_nil ?_
    refine then_n ?_
    refine wp_seq ?_
    refine dr_enter (fun wa_ wb_ => Stp wa_ wb_ (some w0.heap.size)) follows_mixed ?_
    intro w1156 he1157
    have hx1158 := hx1155.trans' he1157
    have hzhx1158 := he1157.size
    replace hf37 := hf37.ext he1157
    replace hf39 := hf39.ext he1157
    replace hb1153 := hb1153.ext he1157
    have hs1159 : Ext w1156 w1156 := Ext.rfl' _
    refine dr_val (i := 0) ha1150 rfl (by kernel_rfl) (by kernel_rfl) (by kernel_rfl) rfl rfl rfl (Stp.of_ext hs1159 _) (fun w' hw' => op_move ha1150 rfl rfl) ?_
    intro a1160 ha1160; clear ha1150 a1150
    refine dr_val (i := 1) ha1160 rfl (by kernel_rfl) (by kernel_rfl) (by kernel_rfl) rfl rfl rfl (Stp.of_ext hs1159 _) (fun w' hw' => op_loadS ha1160 rfl Try.underlying41 ti41 rfl rfl (hb1153.stp hw' (by intro q hq; cases hq; omega)).cells) ?_
    intro a1161 ha1161; clear ha1160 a1160
    refine dr_val (i := 2) ha1161 rfl (by kernel_rfl) (by kernel_rfl) (by kernel_rfl) rfl rfl rfl (Stp.of_ext hs1159 _) (fun w' hw' => op_assign ha1161 rfl rfl) ?_
    intro a1162 ha1162; clear ha1161 a1161
    refine dr_one (i := 3) (by kernel_rfl) ?_
    replace hf37 := hf37.ext hs1159
    replace hf39 := hf39.ext hs1159
    replace hb1153 := hb1153.ext hs1159
    refine po_effS ha1162 rfl rfl rfl (op_storeAll' ha1162 rfl ti41 rfl rfl hf37 rfl rfl (by simp [Value.oneCell']) rfl) ?_
    rintro w1163 ⟨hb1165, hst1164, hz1166⟩
    have hs1167 := (Stp.of_ext hs1159 (some w0.heap.size)).trans' hst1164
    have hx1168 := hx1158.stp hst1164 (by intro q hq; cases hq; exact (by omega))
    have hzhx1168 := hst1164.size
    replace hf39 := hf39.stp hst1164 (by intro q hq; cases hq; omega)
    replace hb1153 := hb1153.stp hst1164 (by intro q hq; cases hq; omega)
    clear hf37
    refine ⟨hs1167, ?_⟩
    refine dr_narrow (S' := fun w' => Stp w1163 w' _) (fun w' h' => hs1167.trans' h') _ _ _ _ ?_
    have hs1169 : Ext w1163 w1163 := Ext.rfl' _
    refine dr_end (by kernel_rfl) ?_
    refine then_n ?_
    refine wp_ret ?_
    refine ret_tc ha1162 rfl rfl rfl Try.underlying41 ti41 rfl hb1165.cells ?_
    clear ha1162 a1162
    refine ret_mk hx1168 ?_
    refine ⟨(((q24)) : List Ent), (((q31 : Int), (q32 : Int), ([] : Str), (0 : Int)) : Ent), (by first | assumption | omega | (constructor <;> omega) | (dsimp only; omega) | (simp; done) | (simp; omega)), (by first | assumption | omega | (constructor <;> omega) | (dsimp only; omega) | (simp; done) | (simp; omega)), (by first | assumption | omega | (constructor <;> omega) | (dsimp only; omega) | (simp; done) | (simp; omega)), (by first | assumption | omega | (constructor <;> omega) | (dsimp only; omega) | (simp; done) | (simp; omega)), (by first | assumption | omega | (constructor <;> omega) | (dsimp only; omega) | (simp; done) | (simp; omega)), ?_⟩
    refine ⟨v20, (tup2_eq rfl (by rfl)), ?_⟩
    ·refine (hf39.fin (by omega) (by omega) (by omega)).cast ?_
     rfl
   ·
    rw [decide_eq_false c1143] at ha1142
    refine cond_f ha1142 rfl ?_
    refine wp_skip ?_
    refine then_n ?_
    refine wp_seq ?_
    clear hS1134
    refine dr_enter (fun wa_ wb_ => Stp wa_ wb_ (some w0.heap.size)) follows_mixed ?_
    intro w1170 he1171
    have hx1172 := hx1140.trans' he1171
    have hzhx1172 := he1171.size
    replace hf37 := hf37.ext he1171
    replace hf39 := hf39.ext he1171
    replace hf40 := hf40.ext he1171
    have hs1173 : Ext w1170 w1170 := Ext.rfl' _
    refine dr_val (i := 0) ha1142 rfl (by kernel_rfl) (by kernel_rfl) (by kernel_rfl) rfl rfl rfl (Stp.of_ext hs1173 _) (fun w' hw' => op_move ha1142 rfl rfl) ?_
    intro a1174 ha1174; clear ha1142 a1142
    refine dr_val (i := 1) ha1174 rfl (by kernel_rfl) (by kernel_rfl) (by kernel_rfl) rfl rfl rfl (Stp.of_ext hs1173 _) (fun w' hw' => op_loadS ha1174 rfl Try.underlying41 ti41 rfl rfl (hf40.stp hw' (by intro q hq; cases hq; omega)).cells) ?_
    intro a1175 ha1175; clear ha1174 a1174
    refine dr_val (i := 2) ha1175 rfl (by kernel_rfl) (by kernel_rfl) (by kernel_rfl) rfl rfl rfl (Stp.of_ext hs1173 _) (fun w' hw' => op_assign ha1175 rfl rfl) ?_
    intro a1176 ha1176; clear ha1175 a1175
    refine dr_one (i := 3) (by kernel_rfl) ?_
    replace hf37 := hf37.ext hs1173
    replace hf39 := hf39.ext hs1173
    replace hf40 := hf40.ext hs1173
    refine po_effS ha1176 rfl rfl rfl (op_storeAll' ha1176 rfl ti41 rfl rfl hf37 rfl rfl (by simp [Value.oneCell']) rfl) ?_
    rintro w1177 ⟨hb1179, hst1178, hz1180⟩
    have hs1181 := (Stp.of_ext hs1173 (some w0.heap.size)).trans' hst1178
    have hx1182 := hx1172.stp hst1178 (by intro q hq; cases hq; exact (by omega))
    have hzhx1182 := hst1178.size
    replace hf39 := hf39.stp hst1178 (by intro q hq; cases hq; omega)
    replace hf40 := hf40.stp hst1178 (by intro q hq; cases hq; omega)
    clear hf37
    refine ⟨hs1181, ?_⟩
    refine dr_narrow (S' := fun w' => Stp w1177 w' _) (fun w' h' => hs1181.trans' h') _ _ _ _ ?_
    have hs1183 : Ext w1177 w1177 := Ext.rfl' _
    refine dr_end (by kernel_rfl) ?_
    refine then_n ?_
    refine wp_ret ?_
    refine ret_tc ha1176 rfl rfl rfl Try.underlying41 ti41 rfl hb1179.cells ?_
    clear ha1176 a1176
    refine ret_mk hx1182 ?_
    refine ⟨(((q24)) : List Ent), (((q31 : Int), (q32 : Int), q33, ((100 : Int) * ((1 : Int) + (q34 : Int)))) : Ent), (by first | assumption | omega | (constructor <;> omega) | (dsimp only; omega) | (simp; done) | (simp; omega)), (by first | assumption | omega | (constructor <;> omega) | (dsimp only; omega) | (simp; done) | (simp; omega)), (by first | assumption | omega | (constructor <;> omega) | (dsimp only; omega) | (simp; done) | (simp; omega)), (by first | assumption | omega | (constructor <;> omega) | (dsimp only; omega) | (simp; done) | (simp; omega)), (by first | assumption | omega | (constructor <;> omega) | (dsimp only; omega) | (simp; done) | (simp; omega)), ?_⟩
    refine ⟨v20, (tup2_eq rfl (by rfl)), ?_⟩
    ·refine (hf39.fin (by omega) (by omega) (by omega)).cast ?_
     rfl
  ·
   rw [decide_eq_false c1129] at ha1128
   refine wl_skip ha1128 rfl rfl rfl ?_
   intro a1184 ha1184; clear ha1128 a1128
   refine wl_skip ha1184 rfl rfl rfl ?_
   intro a1185 ha1185; clear ha1184 a1184
   refine wl_skip ha1185 rfl rfl rfl ?_
   intro a1186 ha1186; clear ha1185 a1185
   refine wl_val ha1186 rfl rfl rfl (op_pick_f ha1186 rfl rfl rfl) ?_
   intro a1187 ha1187; clear ha1186 a1186
   refine wpList_nil ?_
   refine then_n ?_
   refine cond_f ha1187 rfl ?_
   refine wp_skip ?_
   refine then_n ?_
   refine wp_seq ?_
   clear hf38
   refine dr_enter (fun wa_ wb_ => Stp wa_ wb_ (some w0.heap.size)) follows_mixed ?_
   intro w1188 he1189
   have hx1190 := hx36.trans' he1189
   have hzhx1190 := he1189.size
   replace hf37 := hf37.ext he1189
   replace hf39 := hf39.ext he1189
   replace hf40 := hf40.ext he1189
   have hs1191 : Ext w1188 w1188 := Ext.rfl' _
   refine dr_val (i := 0) ha1187 rfl (by kernel_rfl) (by kernel_rfl) (by kernel_rfl) rfl rfl rfl (Stp.of_ext hs1191 _) (fun w' hw' => op_move ha1187 rfl rfl) ?_
   intro a1192 ha1192; clear ha1187 a1187
   refine dr_val (i := 1) ha1192 rfl (by kernel_rfl) (by kernel_rfl) (by kernel_rfl) rfl rfl rfl (Stp.of_ext hs1191 _) (fun w' hw' => op_loadS ha1192 rfl Try.underlying41 ti41 rfl rfl (hf40.stp hw' (by intro q hq; cases hq; omega)).cells) ?_
   intro a1193 ha1193; clear ha1192 a1192
   refine dr_val (i := 2) ha1193 rfl (by kernel_rfl) (by kernel_rfl) (by kernel_rfl) rfl rfl rfl (Stp.of_ext hs1191 _) (fun w' hw' => op_assign ha1193 rfl rfl) ?_
   intro a1194 ha1194; clear ha1193 a1193
   refine dr_one (i := 3) (by kernel_rfl) ?_
   replace hf37 := hf37.ext hs1191
   replace hf39 := hf39.ext hs1191
   replace hf40 := hf40.ext hs1191
   refine po_effS ha1194 rfl rfl rfl (op_storeAll' ha1194 rfl ti41 rfl rfl hf37 rfl rfl (by simp [Value.oneCell']) rfl) ?_
   rintro w1195 ⟨hb1197, hst1196, hz1198⟩
   have hs1199 := (Stp.of_ext hs1191 (some w0.heap.size)).trans' hst1196
   have hx1200 := hx1190.stp hst1196 (by intro q hq; cases hq; exact (by omega))
   have hzhx1200 := hst1196.size
   replace hf39 := hf39.stp hst1196 (by intro q hq; cases hq; omega)
   replace hf40 := hf40.stp hst1196 (by intro q hq; cases hq; omega)
   clear hf37
   refine ⟨hs1199, ?_⟩
   refine dr_narrow (S' := fun w' => Stp w1195 w' _) (fun w' h' => hs1199.trans' h') _ _ _ _ ?_
   have hs1201 : Ext w1195 w1195 := Ext.rfl' _
   refine dr_end (by kernel_rfl) ?_
   refine then_n ?_
   refine wp_ret ?_
   refine ret_tc ha1194 rfl rfl rfl Try.underlying41 ti41 rfl hb1197.cells ?_
   clear ha1194 a1194
   refine ret_mk hx1200 ?_
   refine ⟨(((q24)) : List Ent), (((q31 : Int), (q32 : Int), q33, ((100 : Int) * ((1 : Int) + (q34 : Int)))) : Ent), (by first | assumption | omega | (constructor <;> omega) | (dsimp only; omega) | (simp; done) | (simp; omega)), (by first | assumption | omega | (constructor <;> omega) | (dsimp only; omega) | (simp; done) | (simp; omega)), (by first | assumption | omega | (constructor <;> omega) | (dsimp only; omega) | (simp; done) | (simp; omega)), (by first | assumption | omega | (constructor <;> omega) | (dsimp only; omega) | (simp; done) | (simp; omega)), (by first | assumption | omega | (constructor <;> omega) | (dsimp only; omega) | (simp; done) | (simp; omega)), ?_⟩
   refine ⟨v20, (tup2_eq rfl (by rfl)), ?_⟩
   ·refine (hf39.fin (by omega) (by omega) (by omega)).cast ?_
    rfl


end Go.Proofs.Ytocedhbefdaefaa
