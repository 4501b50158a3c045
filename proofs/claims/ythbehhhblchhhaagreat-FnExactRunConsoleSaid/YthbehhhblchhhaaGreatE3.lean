/- The law RunConsole, walked. -/
import Derived.Test.YthbehhhblchhhaaGreatX4
import Derived.Test.YthbehhhblchhhaaGreatX5
import Derived.Test.YthbehhhblchhhaaGreatL2
namespace Go.Proofs.YthbehhhblchhhaaGreat
open Go Go.RowKit
set_option maxHeartbeats 16000000

theorem c_laws_FnExactRunConsole (w0 : World) (aText : Str) (g0 : aText.length ≤ 9223372036854775807) :
    Calls Tryz.prog 6 #[St aText] w0 (Ret w0 (fun v _ => v = .bool (true))) := by
 refine enter (N := 66) Tryz.func6 rfl rfl rfl ?_
 intro A H
 have hx0 := Ext.rfl' w0
 have hcl := rcL_len aText
 obtain ⟨_, _, _, hcd1, hcd2, hcd3⟩ := desk_bd (rcD_ok aText)
 revert A; refine go ?_; intro A H
 refine wv H (op_len_str H rfl Tryz.underlying9 rfl) ?_
 clear H A; refine go ?_; intro A H
 by_cases c5 : (1048576 : Int) < ((aText.length : Nat) : Int)
 rw [decide_eq_true c5] at H
 revert A; refine go ?_; intro A H
 refine ret1 H rfl rfl ?_
 clear H A
 exact ret_mk hx0 (congrArg Value.bool (by first | rfl | omega))
 rw [decide_eq_false c5] at H
 revert A; refine go ?_; intro A H
 refine wc H cb10 (c_spec_RunConsole _ aText (by first | assumption | omega | (simp; omega))) ?_
 clear H A; rintro v8 w9 he10 ⟨v11, rfl, ho12⟩ A H
 obtain ⟨hx14, _⟩ := nx hx0 he10
 revert A; refine go ?_; intro A H
 refine wc H cb9 (c_impl_RunConsole _ aText (by first | assumption | omega | (simp; omega))) ?_
 clear H A; rintro v21 w22 he23 ⟨v24, rfl, ho25⟩ A H
 obtain ⟨hx27, _⟩ := nx hx14 he23
 replace ho12 := ho12.ext he23
 revert A; refine go ?_; intro A H
 refine wc H cb27 (c_laws_eqStringS _ v24 ((rcL aText)) v11 ((rcL aText)) (ho25.rds pos_shStr) (ho12.rds pos_shStr)) ?_
 clear H A; rintro v35 w36 he37 rfl A H
 obtain ⟨hx39, _⟩ := nx hx27 he37
 replace ho12 := ho12.ext he37
 replace ho25 := ho25.ext he37
 revert A; refine go ?_; intro A H
 rcases Bool.eq_false_or_eq_true (eqL ((rcL aText)) ((rcL aText))) with c42 | c42
 rw [c42] at H
 revert A; refine go ?_; intro A H
 by_cases c47 : (rcC aText : Int) = (rcC aText : Int)
 rw [decide_eq_true c47] at H
 revert A; refine go ?_; intro A H
 refine wl_callS H rfl rfl rfl (op_call H rfl cb28 rfl) (c_laws_markStringS _ v24 ((rcL aText)) (1 : Int) ho25 (by first | assumption | omega | (simp; omega)) (by first | assumption | omega | (simp; omega)) (by first | assumption | omega | (simp; omega))) ?_
 clear H A; rintro v51 w52 he53 ⟨rfl, ho54⟩ A H
 obtain ⟨hx56, _⟩ := no hx39 ho25 he53
 replace ho12 := ho12.stp he53 (by intro q hq; have hq0 := ho25.lt q hq; omega)
 clear ho25
 revert A; refine go ?_; intro A H
 refine wc H cb29 (c_laws_heldStringS _ v24 ((mkN mkS 1 ((rcL aText)).length ((1 : Int)))) (1 : Int) (ho54.rds pos_shStr) (by first | assumption | omega | (simp; omega)) (by first | assumption | omega | (simp; omega)) gd) ?_
 clear H A; rintro v61 w62 he63 rfl A H
 obtain ⟨hx65, _⟩ := nx hx56 he63
 replace ho12 := ho12.ext he63
 replace ho54 := ho54.ext he63
 revert A; refine go ?_; intro A H
 by_cases c69 : (heldG okS 1 ((mkN mkS 1 ((rcL aText)).length ((1 : Int)))) (1 : Int) : Int) < (0 : Int)
 rw [decide_eq_true c69] at H
 clear ho12 ho54
 revert A; refine go ?_; intro A H
 refine ret1 H rfl rfl ?_
 clear H A
 exact ret_mk hx65 (congrArg Value.bool (by first | rfl | omega | (simp [held_mkN okS_mk] at c69; done) | (simp [held_mkN okS_mk] at c69; omega) | (simp [held_mkN okS_mk, mkN_length] at c69; done) | (simp [held_mkN okS_mk, mkN_length] at c69; omega) | (exact absurd rfl c5)))
 rw [decide_eq_false c69] at H
 revert A; refine go ?_; intro A H
 by_cases c74 : (heldG okS 1 ((mkN mkS 1 ((rcL aText)).length ((1 : Int)))) (1 : Int) : Int) = (((1 : Int)) + 1 * (((rcL aText)).length : Nat) : Int)
 rw [decide_eq_true c74] at H
 revert A; refine go ?_; intro A H
 refine wc H cb9 (c_impl_RunConsole _ aText (by first | assumption | omega | (simp; omega))) ?_
 clear H A; rintro v76 w77 he78 ⟨v79, rfl, ho80⟩ A H
 obtain ⟨hx82, _⟩ := nx hx65 he78
 replace ho12 := ho12.ext he78
 replace ho54 := ho54.ext he78
 revert A; refine go ?_; intro A H
 refine wc H cb27 (c_laws_eqStringS _ v79 ((rcL aText)) v11 ((rcL aText)) (ho80.rds pos_shStr) (ho12.rds pos_shStr)) ?_
 clear H A; rintro v90 w91 he92 rfl A H
 obtain ⟨hx94, _⟩ := nx hx82 he92
 replace ho12 := ho12.ext he92
 replace ho54 := ho54.ext he92
 replace ho80 := ho80.ext he92
 revert A; refine go ?_; intro A H
 rw [c42] at H
 revert A; refine go ?_; intro A H
 rw [decide_eq_true c47] at H
 clear ho12 ho80
 revert A; refine go ?_; intro A H
 refine wc H cb29 (c_laws_heldStringS _ v24 ((mkN mkS 1 ((rcL aText)).length ((1 : Int)))) (1 : Int) (ho54.rds pos_shStr) (by first | assumption | omega | (simp; omega)) (by first | assumption | omega | (simp; omega)) gd) ?_
 clear H A; rintro v104 w105 he106 rfl A H
 obtain ⟨hx108, _⟩ := nx hx94 he106
 replace ho54 := ho54.ext he106
 clear ho54
 revert A; refine go ?_; intro A H
 rw [decide_eq_false c69] at H
 revert A; refine go ?_; intro A H
 rw [decide_eq_true c74] at H
 revert A; refine go ?_; intro A H
 refine ret1 H rfl rfl ?_
 clear H A
 exact ret_mk hx108 (congrArg Value.bool (by first | rfl | omega | (simp [held_mkN okS_mk] at c74; done) | (simp [held_mkN okS_mk] at c74; omega) | (simp [held_mkN okS_mk, mkN_length] at c74; done) | (simp [held_mkN okS_mk, mkN_length] at c74; omega) | (simp [held_mkN okS_mk] at c69; done) | (simp [held_mkN okS_mk] at c69; omega) | (simp [held_mkN okS_mk, mkN_length] at c69; done) | (simp [held_mkN okS_mk, mkN_length] at c69; omega) | (exact absurd rfl c69) | (exact absurd rfl c5)))
 rw [decide_eq_false c74] at H
 clear ho12 ho54
 revert A; refine go ?_; intro A H
 refine ret1 H rfl rfl ?_
 clear H A
 exact ret_mk hx65 (congrArg Value.bool (by first | rfl | omega | (simp [held_mkN okS_mk] at c74; done) | (simp [held_mkN okS_mk] at c74; omega) | (simp [held_mkN okS_mk, mkN_length] at c74; done) | (simp [held_mkN okS_mk, mkN_length] at c74; omega) | (simp [held_mkN okS_mk] at c69; done) | (simp [held_mkN okS_mk] at c69; omega) | (simp [held_mkN okS_mk, mkN_length] at c69; done) | (simp [held_mkN okS_mk, mkN_length] at c69; omega) | (exact absurd rfl c74) | (exact absurd rfl c69) | (exact absurd rfl c5)))
 rw [decide_eq_false c47] at H
 clear ho12 ho25
 revert A; refine go ?_; intro A H
 refine ret1 H rfl rfl ?_
 clear H A
 exact ret_mk hx39 (congrArg Value.bool (by first | rfl | omega | (exact absurd rfl c47) | (exact absurd rfl c5)))
 rw [c42] at H
 clear ho12 ho25
 revert A; refine go ?_; intro A H
 refine ret1 H rfl rfl ?_
 clear H A
 exact ret_mk hx39 (congrArg Value.bool (by first | rfl | omega | (rw [eqL_self] at c42; cases c42) | (exact absurd rfl c42) | (exact absurd rfl c5)))




end Go.Proofs.YthbehhhblchhhaaGreat
