/- The tied card of WishWhy: whatever the input, the law returns true, and each argument reads behind the call as it did. No condition beyond the card's own. -/
import Derived.Test.YtlcbpicpociipaaDoorB5
import Derived.JoinedOf
import Derived.SevenTiedAt
import Derived.Test.YtlcbpicpociipaaDoorCards
import Derived.Test.YtlcbpicpociipaaDoorProg
import Derived.Test.YtlcbpicpociipaaDoorRows
import Derived.Test.YtlcbpicpociipaaDoorTie
section
/- What every card of this seat leans on: the types of the arguments, the listed variable. -/
set_option linter.unusedVariables false
set_option linter.unusedSimpArgs false
set_option maxRecDepth 100000
namespace Go.Proofs.YtlcbpicpociipaaDoor
open Go Go.TL Go.ChangeShapes Go.WideShapes Go.RowKit
theorem Tryd.own : ownKnob Tryd.prog.godebug = none := by kernel_rfl
theorem Tryd.laidOut : laidOutB Tryd.prog = true := by kernel_rfl
theorem Tryd.tyI : Tryd.prog.underlying 3 = some (.int .i64) := by kernel_rfl
theorem Tryd.tyB : Tryd.prog.underlying 4 = some .bool := by kernel_rfl
theorem Tryd.tyS : Tryd.prog.underlying 9 = some .string := by kernel_rfl
theorem Tryd.ty8 : Tryd.prog.underlying 5 = some (.int .u8) := by kernel_rfl
theorem Tryd.numTy : NumTy Tryd.prog 25 22 23 76 3 := ⟨by kernel_rfl, by kernel_rfl, by kernel_rfl, by kernel_rfl, by kernel_rfl, by kernel_rfl, by kernel_rfl, by kernel_rfl, by kernel_rfl, by kernel_rfl⟩
abbrev laidC : List (String × DataW Unit) := [("dialtone/digest.round", Rows.laid_dialtone_digest_round)]
def roundZ : List Int := shaK.map fun x => (x.toNat : Int)
theorem round_eq : (roundZ.map (.int .u32 ·)).toArray = roundC := by kernel_rfl
theorem round_datum : (Rows.laid_dialtone_digest_round : DataW Unit) = .agg (roundZ.map fun z => .lit (.int .u32 z)) := by kernel_rfl
theorem glob_round {W : World} (h : laidMetH Tryd.prog laidC W) (hsh : W.ShapedOpen Tryd.prog) : (glob 0 roundC 157).on (fun b => b < W.heap.size) W := by
  have := glob_of (P := Tryd.prog) (t := 157) (e := 126) (m := 64) (zs := roundZ) (by kernel_rfl) rfl round_datum (by kernel_rfl) (by kernel_rfl) (by kernel_rfl) (by kernel_rfl) (by kernel_rfl) (by kernel_rfl) (by kernel_rfl) (by kernel_rfl) (by kernel_rfl) h hsh
  rwa [round_eq] at this
end Go.Proofs.YtlcbpicpociipaaDoor
end
section
/- Facts on the types and functions that the walks of this seat use. Written by a program of this session. -/
set_option linter.unusedVariables false
set_option linter.unusedSimpArgs false
set_option maxRecDepth 100000
set_option maxHeartbeats 800000
namespace Go.Proofs
open Go.TL
attribute [local irreducible] Go.TL.T Go.TL.TO Go.TL.TQ
theorem Tryd.agg25 : TyAgg Tryd.prog 25 8 := ⟨fun w => by kernel_rfl, fun w => by kernel_rfl⟩
theorem Tryd.enters10 : Enters Tryd.prog 10 := fun args w => by kernel_rfl
theorem Tryd.enters11 : Enters Tryd.prog 11 := fun args w => by kernel_rfl
theorem Tryd.enters24 : Enters Tryd.prog 24 := fun args w => by kernel_rfl
end Go.Proofs
end
section
/- Walks: what functions of the program do, by contract. Written by a program of this session. -/
set_option linter.unusedVariables false
set_option linter.unusedSimpArgs false
set_option maxRecDepth 100000
set_option maxHeartbeats 800000
namespace Go.Proofs
open Go.TL
attribute [local irreducible] Go.TL.T Go.TL.TO Go.TL.TQ
/- dialtone/dialtonelaw15.WishWhy -/
theorem c_law15_WishWhy (u : Nums) (A : Option Addr) (m cap : Nat) (hm : m = u.chain.length) (hx : NumsOk u) (hcl : u.chain.length ≤ 9223372036854775807) (how n nu t : Int) (how0 : -9223372036854775808 ≤ how) (how1 : how ≤ 9223372036854775807) : Cv Tryd.prog 7 #[.agg #[.int .i64 u.holder, .int .i64 u.r0, .int .i64 u.r1, .int .i64 u.s0, .int .i64 u.s1, .int .i64 u.carrier, .int .i64 u.serial, .slice A m cap], .int .i64 how, .int .i64 n, .int .i64 nu, .int .i64 t] [glob 0 roundC 157, slc fiveL 5 A u.chain] (.bool true) := by
  subst hm
  have M := made u
  obtain ⟨g1, g2⟩ := M.sg
  obtain ⟨g3, g4⟩ := M.hd
  obtain ⟨g5, g6, g7⟩ := M.rg
  obtain ⟨g8, g9, g0⟩ := M.sp
  have hll := M.len
  refine Ctr.intro Tryd.func7 rfl Tryd.ntmps7 (Nat.le_of_ble_eq_true rfl) fun S0 w0 => ?_
  refine T.seq ?_
  refine T.region ?_
  refine TO.box (v := .agg #[.int _ _, .int _ _, .int _ _, .int _ _, .int _ _, .int _ _, .int _ _, .slice _ _ _]) rfl (fun b1 => ?_)
  refine TO.rd rfl rfl (rd_assign (v := .bool _) rfl) ?_
  refine TO.nil ?_
  refine TQ.then_normal ?_
  refine T.seq ?_
  refine T.region ?_
  refine TO.fn Tryd.enters10 (cv_b (c_law15_sane) (rfl)) rfl (ReadsC (Has.arg 0 rfl) Reads0) ?_
  refine TO.rd rfl rfl (rd_assign (v := .bool _) rfl) ?_
  refine TO.nil ?_
  refine TQ.then_normal ?_
  refine T.seq ?_
  refine T.seq ?_
  refine T.region ?_
  refine TO.rd rfl rfl (rd_move (v := .bool _) rfl) ?_
  refine TO.rd rfl rfl (rd_not rfl) ?_
  refine TO.nil ?_
  refine TQ.then_normal ?_
  refine T.cond_false rfl ?_
  refine T.skip ?_
  refine TQ.then_normal ?_
  refine T.seq ?_
  refine T.region ?_
  refine TO.rd rfl rfl (rd_load_agg (cs := #[.int _ _, .int _ _, .int _ _, .int _ _, .int _ _, .int _ _, .int _ _, .slice _ _ _]) Tryd.agg25 rfl (Has.own 0 rfl) rfl rfl) ?_
  refine TO.fnx Tryd.enters11 (c_ref15_Made u _ _ _ rfl hx hcl) rfl (ReadsC (Has.arg 1 rfl) Reads0) (fun ⟨A2, c3⟩ hx4 => ?_)
  refine TO.rd rfl rfl (rd_move (v := .tuple _) rfl) ?_
  refine TO.rd rfl rfl (rd_extract (v := .agg _) (vs := _) rfl rfl) ?_
  refine TO.rd rfl rfl (rd_extract (v := .slice _ _ _) (vs := _) rfl rfl) ?_
  refine TO.alloc Tryd.zero31 (fun b6 => ?_)
  refine TO.store0 (cells' := #[.int _ _, .int _ _, .int _ _, .int _ _, .int _ _, .int _ _, .int _ _, .int _ _, .string _]) Tryd.size31 rfl (v := .agg #[.int _ _, .int _ _, .int _ _, .int _ _, .int _ _, .int _ _, .int _ _, .int _ _, .string _]) rfl rfl rfl (Nat.le_of_ble_eq_true rfl) rfl ?_
  refine TO.rd rfl rfl (rd_assign (v := .slice _ _ _) rfl) ?_
  refine TO.nil ?_
  refine TQ.then_normal ?_
  refine T.seq ?_
  refine T.region ?_
  refine TO.fnx Tryd.enters18 (c_ref15_Keys) rfl Reads0 (fun ⟨A7, cap8⟩ hx9 => ?_)
  refine TO.rd rfl rfl (rd_assign (v := .slice _ _ _) rfl) ?_
  refine TO.nil ?_
  refine TQ.then_normal ?_
  refine T.seq ?_
  refine T.region ?_
  refine TO.rd rfl rfl (rd_load_agg (cs := #[.int _ _, .int _ _, .int _ _, .int _ _, .int _ _, .int _ _, .int _ _, .int _ _, .string _]) Tryd.agg31 rfl (Has.own 1 rfl) rfl rfl) ?_
  refine TO.rd rfl rfl (rd_move (v := .int _ _) rfl) ?_
  refine TO.rd rfl rfl (rd_move (v := .int _ _) rfl) ?_
  refine TO.fn Tryd.enters24 (c_ref15_BentWish (madeW u) (how) (n) (by omega) (by omega) (by omega) (by omega)) rfl Reads0 ?_
  refine TO.rd rfl rfl (rd_move (v := .tuple _) rfl) ?_
  refine TO.rd rfl rfl (rd_extract (v := .agg _) (vs := _) rfl rfl) ?_
  refine TO.rd rfl rfl (rd_extract (v := .bool _) (vs := _) rfl rfl) ?_
  refine TO.alloc Tryd.zero31 (fun b11 => ?_)
  refine TO.store0 (cells' := #[.int _ _, .int _ _, .int _ _, .int _ _, .int _ _, .int _ _, .int _ _, .int _ _, .string _]) Tryd.size31 rfl (v := .agg #[.int _ _, .int _ _, .int _ _, .int _ _, .int _ _, .int _ _, .int _ _, .int _ _, .string _]) rfl rfl rfl (Nat.le_of_ble_eq_true rfl) rfl ?_
  refine TO.rd rfl rfl (rd_assign (v := .bool _) rfl) ?_
  refine TO.nil ?_
  refine TQ.then_normal ?_
  refine T.seq ?_
  refine T.region ?_
  refine TO.rd rfl rfl (rd_move (v := .slice _ _ _) rfl) ?_
  refine TO.rd rfl rfl (rd_load_agg (cs := #[.int _ _, .int _ _, .int _ _, .int _ _, .int _ _, .int _ _, .int _ _, .int _ _, .string _]) Tryd.agg31 rfl (Has.own 0 rfl) rfl rfl) ?_
  refine TO.rd rfl rfl (rd_move (v := .slice _ _ _) rfl) ?_
  refine TO.rd rfl rfl (rd_move (v := .int _ _) rfl) ?_
  refine TO.rd rfl rfl (rd_move (v := .int _ _) rfl) ?_
  refine TO.fn Tryd.enters23 (c_wish_Why _ _ _ (keysN 10) (by first | rfl | simp | omega) (bendW (madeW u) how n) _ _ _ (madeL u) (by first | rfl | simp | omega) (nu) (t) (by first | omega | assumption | (rw [keysN_len]; omega)) (by first | omega | assumption | (simp; done) | (simp only [List.length_drop, List.length_take, List.length_append]; omega))) rfl (ReadsC (Has.arg 0 rfl) (ReadsC (row_slc' (e := eStr) (xs := (keysN 10)) (fun _ => rfl) (by first | rfl | omega | simp) (rfl) (Has.own 1 rfl)) (ReadsC (row_slc' (e := proxyL) (xs := (madeL u)) (fun _ => rfl) (rfl) (rfl) (Has.own 3 rfl)) Reads0))) ?_
  obtain ⟨⟨w1, w2⟩, ⟨w3, w4⟩, w5⟩ := whyOf_ok (keysN 10) (bendW (madeW u) how n) (madeL u) nu t
  refine TO.rd rfl rfl (rd_move (v := .tuple _) rfl) ?_
  refine TO.rd rfl rfl (rd_extract (v := .int _ _) (vs := _) rfl rfl) ?_
  refine TO.rd rfl rfl (rd_extract (v := .int _ _) (vs := _) rfl rfl) ?_
  refine TO.rd rfl rfl (rd_assign (v := .int _ _) rfl) ?_
  refine TO.rd rfl rfl (rd_assign (v := .int _ _) rfl) ?_
  refine TO.nil ?_
  refine TQ.then_normal ?_
  refine T.seq ?_
  refine T.seq ?_
  refine T.region ?_
  refine TO.rd rfl rfl (rd_move (v := .int _ _) rfl) ?_
  refine TO.rd rfl rfl (rd_eql rfl rfl) ?_
  refine TO.rd rfl rfl (rd_move (v := .slice _ _ _) rfl) ?_
  refine TO.rd rfl rfl (rd_load_agg (cs := #[.int _ _, .int _ _, .int _ _, .int _ _, .int _ _, .int _ _, .int _ _, .int _ _, .string _]) Tryd.agg31 rfl (Has.own 0 rfl) rfl rfl) ?_
  refine TO.rd rfl rfl (rd_move (v := .slice _ _ _) rfl) ?_
  refine TO.rd rfl rfl (rd_move (v := .int _ _) rfl) ?_
  refine TO.rd rfl rfl (rd_move (v := .int _ _) rfl) ?_
  refine TO.fn Tryd.enters17 (c_wish_Valid _ _ _ (keysN 10) (by first | rfl | simp | omega) (bendW (madeW u) how n) _ _ _ (madeL u) (by first | rfl | simp | omega) (nu) (t) (by first | omega | assumption | (rw [keysN_len]; omega) | (simp only [List.length_drop, List.length_take, List.length_set, keysN_len]; omega)) (by first | omega | assumption | (simp; done) | (simp only [List.length_drop, List.length_take, List.length_append]; omega))) rfl (ReadsC (Has.arg 0 rfl) (ReadsC (row_slc' (e := eStr) (xs := (keysN 10)) (fun _ => rfl) (by first | rfl | omega | simp) (rfl) (Has.own 1 rfl)) (ReadsC (row_slc' (e := proxyL) (xs := (madeL u)) (fun _ => rfl) (rfl) (rfl) (Has.own 3 rfl)) Reads0))) ?_
  refine TO.rd rfl rfl (rd_b (b := false) (rd_neb Tryd.under4 rfl rfl) (by simp [validOf])) ?_
  refine TO.rd rfl rfl (rd_move (v := .bool _) rfl) ?_
  refine TO.guard_true (s := 61) rfl rfl ?_
  refine TO.rd rfl rfl (rd_move (v := .int _ _) rfl) ?_
  refine TO.guard_true (s := 61) rfl rfl ?_
  refine TO.rd rfl rfl (rd_b (b := false) (rd_lss rfl rfl) (by first | exact decide_eq_false (by omega) | (rw [bne_eq_false_iff_eq]; omega) | (simp; done) | (simp; omega))) ?_
  refine TO.rd rfl rfl (rd_pick_false (v := .bool _) rfl rfl) ?_
  refine TO.rd rfl rfl (rd_move (v := .bool _) rfl) ?_
  refine TO.guard_true (s := 65) rfl rfl ?_
  refine TO.rd rfl rfl (rd_move (v := .int _ _) rfl) ?_
  refine TO.guard_true (s := 65) rfl rfl ?_
  refine TO.rd rfl rfl (rd_b (b := false) (rd_gtr rfl rfl) (by first | exact decide_eq_false (by omega) | (rw [bne_eq_false_iff_eq]; omega) | (simp; done) | (simp; omega))) ?_
  refine TO.rd rfl rfl (rd_pick_false (v := .bool _) rfl rfl) ?_
  refine TO.rd rfl rfl (rd_move (v := .bool _) rfl) ?_
  refine TO.guard_true (s := 69) rfl rfl ?_
  refine TO.rd rfl rfl (rd_move (v := .int _ _) rfl) ?_
  refine TO.guard_true (s := 69) rfl rfl ?_
  refine TO.rd rfl rfl (rd_b (b := false) (rd_lss rfl rfl) (by first | exact decide_eq_false (by omega) | (rw [bne_eq_false_iff_eq]; omega) | (simp; done) | (simp; omega))) ?_
  refine TO.rd rfl rfl (rd_pick_false (v := .bool _) rfl rfl) ?_
  refine TO.rd rfl rfl (rd_move (v := .bool _) rfl) ?_
  refine TO.guard_true (s := 73) rfl rfl ?_
  refine TO.rd rfl rfl (rd_move (v := .int _ _) rfl) ?_
  refine TO.guard_true (s := 73) rfl rfl ?_
  refine TO.rd rfl rfl (rd_move (v := .slice _ _ _) rfl) ?_
  refine TO.guard_true (s := 73) rfl rfl ?_
  refine TO.rd rfl rfl (rd_lensl Tryd.under32 rfl) ?_
  refine TO.guard_true (s := 73) rfl rfl ?_
  refine TO.rd rfl rfl (rd_b (b := false) (rd_geq rfl rfl) (by first | exact decide_eq_false (by omega) | (rw [bne_eq_false_iff_eq]; omega) | (simp; done) | (simp; omega))) ?_
  refine TO.rd rfl rfl (rd_pick_false (v := .bool _) rfl rfl) ?_
  refine TO.rd rfl rfl (rd_move (v := .bool _) rfl) ?_
  refine TO.guard_true (s := 79) rfl rfl ?_
  refine TO.rd rfl rfl (rd_move (v := .int _ _) rfl) ?_
  refine TO.guard_true (s := 79) rfl rfl ?_
  refine TO.rd rfl rfl (rd_eql rfl rfl) ?_
  refine TO.guard_true (s := 79) rfl rfl ?_
  refine TO.rd rfl rfl (rd_move (v := .bool _) rfl) ?_
  refine TO.decide_ft (s := 82) rfl (fun h12 => ?_) (fun h12 => ?_)
  · try simp only [decide_eq_true_eq, decide_eq_false_iff_not, Bool.not_eq_true', Bool.not_eq_false', Bool.not_eq_eq_eq_not, Bool.not_true, Bool.not_false, beq_iff_eq, beq_eq_false_iff_ne, bne_iff_ne, bne_eq_false_iff_eq, ne_eq, Int.not_lt, Int.not_le, Decidable.not_not] at h12
    refine TO.guard_false (s := 82) (b' := false) rfl rfl nofun ?_
    refine TO.guard_false (s := 82) (b' := false) rfl rfl nofun ?_
    refine TO.guard_true (s := 79) rfl rfl ?_
    refine TO.rd rfl rfl (rd_pick_false (v := .bool _) rfl rfl) ?_
    refine TO.rd rfl rfl (rd_pick_false (v := .bool _) rfl rfl) ?_
    refine TO.nil ?_
    refine TQ.then_normal ?_
    refine T.cond_false rfl ?_
    refine T.skip ?_
    refine TQ.then_normal ?_
    refine T.seq ?_
    refine T.region ?_
    refine TO.rd rfl rfl (rd_move (v := .int _ _) rfl) ?_
    refine TO.rd rfl rfl (rd_fieldAddr Tryd.field31_2 rfl) ?_
    refine TO.rd rfl rfl (rd_fieldAddr Tryd.field28_0 rfl) ?_
    refine TO.rd rfl rfl (rd_load (v := .int _ _) Tryd.one3 rfl (Has.own 2 rfl) rfl) ?_
    refine TO.rd rfl rfl (rd_lss rfl rfl) ?_
    refine TO.rd rfl rfl (rd_move (v := .bool _) rfl) ?_
    refine TO.decide (s := 92) rfl (fun h18 => ?_) (fun h18 => ?_)
    · try simp only [decide_eq_true_eq, decide_eq_false_iff_not, Bool.not_eq_true', Bool.not_eq_false', Bool.not_eq_eq_eq_not, Bool.not_true, Bool.not_false, beq_iff_eq, beq_eq_false_iff_ne, bne_iff_ne, bne_eq_false_iff_eq, ne_eq, Int.not_lt, Int.not_le, Decidable.not_not] at h18
      refine TO.guard_false (s := 92) (b' := true) rfl rfl nofun ?_
      refine TO.guard_false (s := 92) (b' := true) rfl rfl nofun ?_
      refine TO.guard_false (s := 92) (b' := true) rfl rfl nofun ?_
      refine TO.guard_false (s := 92) (b' := true) rfl rfl nofun ?_
      refine TO.guard_false (s := 92) (b' := true) rfl rfl nofun ?_
      refine TO.rd rfl rfl (rd_pick_true (v := .bool _) rfl rfl) ?_
      refine TO.rd rfl rfl (rd_assign (v := .bool _) rfl) ?_
      refine TO.nil ?_
      refine TQ.then_normal ?_
      refine T.seq ?_
      refine T.region ?_
      refine TO.rd rfl rfl (rd_move (v := .int _ _) rfl) ?_
      refine TO.rd rfl rfl (rd_fieldAddr Tryd.field31_5 rfl) ?_
      refine TO.rd rfl rfl (rd_fieldAddr Tryd.field29_0 rfl) ?_
      refine TO.rd rfl rfl (rd_load (v := .int _ _) Tryd.one3 rfl (Has.own 2 rfl) rfl) ?_
      refine TO.rd rfl rfl (rd_lss rfl rfl) ?_
      refine TO.rd rfl rfl (rd_move (v := .bool _) rfl) ?_
      refine TO.decide (s := 104) rfl (fun h19 => ?_) (fun h19 => ?_)
      · try simp only [decide_eq_true_eq, decide_eq_false_iff_not, Bool.not_eq_true', Bool.not_eq_false', Bool.not_eq_eq_eq_not, Bool.not_true, Bool.not_false, beq_iff_eq, beq_eq_false_iff_ne, bne_iff_ne, bne_eq_false_iff_eq, ne_eq, Int.not_lt, Int.not_le, Decidable.not_not] at h19
        refine TO.guard_false (s := 104) (b' := true) rfl rfl nofun ?_
        refine TO.guard_false (s := 104) (b' := true) rfl rfl nofun ?_
        refine TO.guard_false (s := 104) (b' := true) rfl rfl nofun ?_
        refine TO.guard_false (s := 104) (b' := true) rfl rfl nofun ?_
        refine TO.guard_false (s := 104) (b' := true) rfl rfl nofun ?_
        refine TO.rd rfl rfl (rd_pick_true (v := .bool _) rfl rfl) ?_
        refine TO.rd rfl rfl (rd_assign (v := .bool _) rfl) ?_
        refine TO.nil ?_
        refine TQ.then_normal ?_
        refine T.seq ?_
        refine T.region ?_
        refine TO.rd rfl rfl (rd_move (v := .slice _ _ _) rfl) ?_
        refine TO.rd rfl rfl (rd_load_agg (cs := #[.int _ _, .int _ _, .int _ _, .int _ _, .int _ _, .int _ _, .int _ _, .int _ _, .string _]) Tryd.agg31 rfl (Has.own 2 rfl) rfl rfl) ?_
        refine TO.rd rfl rfl (rd_move (v := .slice _ _ _) rfl) ?_
        refine TO.rd rfl rfl (rd_move (v := .int _ _) rfl) ?_
        refine TO.rd rfl rfl (rd_fieldAddr Tryd.field31_5 rfl) ?_
        refine TO.rd rfl rfl (rd_fieldAddr Tryd.field29_0 rfl) ?_
        refine TO.rd rfl rfl (rd_load (v := .int _ _) Tryd.one3 rfl (Has.own 2 rfl) rfl) ?_
        refine TO.fn Tryd.enters23 (cv_w (c_wish_Why _ _ _ (keysN 10) (by first | rfl | simp | omega) (madeW u) _ _ _ (madeL u) (by first | rfl | simp | omega) (nu) ((madeW u).slo) (by first | omega | assumption | (rw [keysN_len]; omega)) (by first | omega | assumption | (simp; done) | (simp only [List.length_drop, List.length_take, List.length_append]; omega))) (M.whyB nu)) rfl (ReadsC (Has.arg 0 rfl) (ReadsC (row_slc' (e := eStr) (xs := (keysN 10)) (fun _ => rfl) (by first | rfl | omega | simp) (rfl) (Has.own 1 rfl)) (ReadsC (row_slc' (e := proxyL) (xs := (madeL u)) (fun _ => rfl) (rfl) (rfl) (Has.own 3 rfl)) Reads0))) ?_
        refine TO.rd rfl rfl (rd_move (v := .tuple _) rfl) ?_
        refine TO.rd rfl rfl (rd_extract (v := .int _ _) (vs := _) rfl rfl) ?_
        refine TO.rd rfl rfl (rd_extract (v := .int _ _) (vs := _) rfl rfl) ?_
        refine TO.rd rfl rfl (rd_assign (v := .int _ _) rfl) ?_
        refine TO.rd rfl rfl (rd_assign (v := .int _ _) rfl) ?_
        refine TO.nil ?_
        refine TQ.then_normal ?_
        refine T.seq ?_
        refine T.region ?_
        refine TO.rd rfl rfl (rd_move (v := .slice _ _ _) rfl) ?_
        refine TO.rd rfl rfl (rd_load_agg (cs := #[.int _ _, .int _ _, .int _ _, .int _ _, .int _ _, .int _ _, .int _ _, .int _ _, .string _]) Tryd.agg31 rfl (Has.own 2 rfl) rfl rfl) ?_
        refine TO.rd rfl rfl (rd_move (v := .slice _ _ _) rfl) ?_
        refine TO.rd rfl rfl (rd_fieldAddr Tryd.field31_2 rfl) ?_
        refine TO.rd rfl rfl (rd_fieldAddr Tryd.field28_0 rfl) ?_
        refine TO.rd rfl rfl (rd_load (v := .int _ _) Tryd.one3 rfl (Has.own 2 rfl) rfl) ?_
        refine TO.rd rfl rfl (rd_move (v := .int _ _) rfl) ?_
        refine TO.fn Tryd.enters23 (cv_w (c_wish_Why _ _ _ (keysN 10) (by first | rfl | simp | omega) (madeW u) _ _ _ (madeL u) (by first | rfl | simp | omega) ((madeW u).rlo) (t) (by first | omega | assumption | (rw [keysN_len]; omega)) (by first | omega | assumption | (simp; done) | (simp only [List.length_drop, List.length_take, List.length_append]; omega))) (M.whyC t)) rfl (ReadsC (Has.arg 0 rfl) (ReadsC (row_slc' (e := eStr) (xs := (keysN 10)) (fun _ => rfl) (by first | rfl | omega | simp) (rfl) (Has.own 1 rfl)) (ReadsC (row_slc' (e := proxyL) (xs := (madeL u)) (fun _ => rfl) (rfl) (rfl) (Has.own 3 rfl)) Reads0))) ?_
        refine TO.rd rfl rfl (rd_move (v := .tuple _) rfl) ?_
        refine TO.rd rfl rfl (rd_extract (v := .int _ _) (vs := _) rfl rfl) ?_
        refine TO.rd rfl rfl (rd_extract (v := .int _ _) (vs := _) rfl rfl) ?_
        refine TO.rd rfl rfl (rd_assign (v := .int _ _) rfl) ?_
        refine TO.rd rfl rfl (rd_assign (v := .int _ _) rfl) ?_
        refine TO.nil ?_
        refine TQ.then_normal ?_
        refine T.seq ?_
        refine T.region ?_
        refine TO.rd rfl rfl (rd_move (v := .slice _ _ _) rfl) ?_
        refine TO.rd rfl rfl (rd_load_agg (cs := #[.int _ _, .int _ _, .int _ _, .int _ _, .int _ _, .int _ _, .int _ _, .int _ _, .string _]) Tryd.agg31 rfl (Has.own 2 rfl) rfl rfl) ?_
        refine TO.rd rfl rfl (rd_move (v := .slice _ _ _) rfl) ?_
        refine TO.rd rfl rfl (rd_move (v := .int _ _) rfl) ?_
        refine TO.rd rfl rfl (rd_move (v := .int _ _) rfl) ?_
        refine TO.fn Tryd.enters23 (cv_w (c_wish_Why _ _ _ (keysN 10) (by first | rfl | simp | omega) (madeW u) _ _ _ (madeL u) (by first | rfl | simp | omega) (nu) (t) (by first | omega | assumption | (rw [keysN_len]; omega)) (by first | omega | assumption | (simp; done) | (simp only [List.length_drop, List.length_take, List.length_append]; omega))) (M.whyD nu t)) rfl (ReadsC (Has.arg 0 rfl) (ReadsC (row_slc' (e := eStr) (xs := (keysN 10)) (fun _ => rfl) (by first | rfl | omega | simp) (rfl) (Has.own 1 rfl)) (ReadsC (row_slc' (e := proxyL) (xs := (madeL u)) (fun _ => rfl) (rfl) (rfl) (Has.own 3 rfl)) Reads0))) ?_
        refine TO.rd rfl rfl (rd_move (v := .tuple _) rfl) ?_
        refine TO.rd rfl rfl (rd_extract (v := .int _ _) (vs := _) rfl rfl) ?_
        refine TO.rd rfl rfl (rd_extract (v := .int _ _) (vs := _) rfl rfl) ?_
        refine TO.rd rfl rfl (rd_assign (v := .int _ _) rfl) ?_
        refine TO.rd rfl rfl (rd_assign (v := .int _ _) rfl) ?_
        refine TO.nil ?_
        refine TQ.then_normal ?_
        refine T.seq ?_
        refine T.seq ?_
        refine T.region ?_
        refine TO.rd rfl rfl (rd_move (v := .int _ _) rfl) ?_
        refine TO.rd rfl rfl (rd_b (b := false) (rd_neq rfl rfl) (by first | exact decide_eq_false (by omega) | (rw [bne_eq_false_iff_eq]; omega) | (simp; done) | (simp; omega))) ?_
        refine TO.rd rfl rfl (rd_move (v := .bool _) rfl) ?_
        refine TO.guard_true (s := 144) rfl rfl ?_
        refine TO.rd rfl rfl (rd_move (v := .int _ _) rfl) ?_
        refine TO.guard_true (s := 144) rfl rfl ?_
        refine TO.rd rfl rfl (rd_b (b := false) (rd_neq rfl rfl) (by first | exact decide_eq_false (by omega) | (rw [bne_eq_false_iff_eq]; omega) | (simp; done) | (simp; omega))) ?_
        refine TO.rd rfl rfl (rd_pick_false (v := .bool _) rfl rfl) ?_
        refine TO.rd rfl rfl (rd_move (v := .bool _) rfl) ?_
        refine TO.guard_true (s := 148) rfl rfl ?_
        refine TO.rd rfl rfl (rd_move (v := .int _ _) rfl) ?_
        refine TO.guard_true (s := 148) rfl rfl ?_
        refine TO.rd rfl rfl (rd_b (b := false) (rd_neq rfl rfl) (by first | exact decide_eq_false (by omega) | (rw [bne_eq_false_iff_eq]; omega) | (simp; done) | (simp; omega))) ?_
        refine TO.rd rfl rfl (rd_pick_false (v := .bool _) rfl rfl) ?_
        refine TO.rd rfl rfl (rd_move (v := .bool _) rfl) ?_
        refine TO.guard_true (s := 152) rfl rfl ?_
        refine TO.rd rfl rfl (rd_move (v := .int _ _) rfl) ?_
        refine TO.guard_true (s := 152) rfl rfl ?_
        refine TO.rd rfl rfl (rd_eql rfl rfl) ?_
        refine TO.guard_true (s := 152) rfl rfl ?_
        refine TO.rd rfl rfl (rd_move (v := .bool _) rfl) ?_
        refine TO.guard_true (s := 152) rfl rfl ?_
        refine TO.rd rfl rfl (rd_b (b := false) (rd_neb Tryd.under4 rfl rfl) (by simp only [numR, timR, bothR]; (repeat' split) <;> first | omega | (simp; done) | (simp; omega))) ?_
        refine TO.rd rfl rfl (rd_pick_false (v := .bool _) rfl rfl) ?_
        refine TO.rd rfl rfl (rd_move (v := .bool _) rfl) ?_
        refine TO.guard_true (s := 158) rfl rfl ?_
        refine TO.rd rfl rfl (rd_move (v := .int _ _) rfl) ?_
        refine TO.guard_true (s := 158) rfl rfl ?_
        refine TO.rd rfl rfl (rd_eql rfl rfl) ?_
        refine TO.guard_true (s := 158) rfl rfl ?_
        refine TO.rd rfl rfl (rd_move (v := .bool _) rfl) ?_
        refine TO.guard_true (s := 158) rfl rfl ?_
        refine TO.rd rfl rfl (rd_b (b := false) (rd_neb Tryd.under4 rfl rfl) (by simp only [numR, timR, bothR]; (repeat' split) <;> first | omega | (simp; done) | (simp; omega))) ?_
        refine TO.rd rfl rfl (rd_pick_false (v := .bool _) rfl rfl) ?_
        refine TO.rd rfl rfl (rd_move (v := .bool _) rfl) ?_
        refine TO.guard_true (s := 164) rfl rfl ?_
        refine TO.rd rfl rfl (rd_move (v := .int _ _) rfl) ?_
        refine TO.guard_true (s := 164) rfl rfl ?_
        refine TO.rd rfl rfl (rd_eql rfl rfl) ?_
        refine TO.guard_true (s := 164) rfl rfl ?_
        refine TO.rd rfl rfl (rd_move (v := .bool _) rfl) ?_
        refine TO.guard_true (s := 164) rfl rfl ?_
        refine TO.rd rfl rfl (rd_b (b := false) (rd_neb Tryd.under4 rfl rfl) (by simp only [numR, timR, bothR]; (repeat' split) <;> first | omega | (simp; done) | (simp; omega))) ?_
        refine TO.rd rfl rfl (rd_pick_false (v := .bool _) rfl rfl) ?_
        refine TO.nil ?_
        refine TQ.then_normal ?_
        refine T.cond_false rfl ?_
        refine T.skip ?_
        refine TQ.then_normal ?_
        refine T.seq ?_
        refine T.region ?_
        refine TO.rd rfl rfl (rd_move (v := .int _ _) rfl) ?_
        refine TO.rd rfl rfl (rd_eql rfl rfl) ?_
        refine TO.rd rfl rfl (rd_move (v := .bool _) rfl) ?_
        refine TO.rd rfl rfl (rd_not rfl) ?_
        refine TO.rd rfl rfl (rd_b (b := true) (rd_eqb Tryd.under4 rfl rfl) (by simp only [numR, timR, bothR]; (repeat' split) <;> first | omega | (simp; done) | (simp; omega))) ?_
        refine TO.rd rfl rfl (rd_move (v := .bool _) rfl) ?_
        refine TO.guard_true (s := 175) rfl rfl ?_
        refine TO.rd rfl rfl (rd_move (v := .int _ _) rfl) ?_
        refine TO.guard_true (s := 175) rfl rfl ?_
        refine TO.rd rfl rfl (rd_eql rfl rfl) ?_
        refine TO.guard_true (s := 175) rfl rfl ?_
        refine TO.rd rfl rfl (rd_move (v := .bool _) rfl) ?_
        refine TO.guard_true (s := 175) rfl rfl ?_
        refine TO.rd rfl rfl (rd_not rfl) ?_
        refine TO.guard_true (s := 175) rfl rfl ?_
        refine TO.rd rfl rfl (rd_b (b := true) (rd_eqb Tryd.under4 rfl rfl) (by simp only [numR, timR, bothR]; (repeat' split) <;> first | omega | (simp; done) | (simp; omega))) ?_
        refine TO.rd rfl rfl (rd_pick_true (v := .bool _) rfl rfl) ?_
        refine TO.rd rfl rfl (rd_move (v := .bool _) rfl) ?_
        refine TO.guard_true (s := 182) rfl rfl ?_
        refine TO.rd rfl rfl (rd_move (v := .int _ _) rfl) ?_
        refine TO.guard_true (s := 182) rfl rfl ?_
        refine TO.rd rfl rfl (rd_eql rfl rfl) ?_
        refine TO.guard_true (s := 182) rfl rfl ?_
        refine TO.rd rfl rfl (rd_move (v := .bool _) rfl) ?_
        refine TO.guard_true (s := 182) rfl rfl ?_
        refine TO.rd rfl rfl (rd_not rfl) ?_
        refine TO.guard_true (s := 182) rfl rfl ?_
        refine TO.rd rfl rfl (rd_move (v := .bool _) rfl) ?_
        refine TO.guard_false (s := 187) (b' := false) rfl rfl nofun ?_
        refine TO.guard_false (s := 187) (b' := false) rfl rfl nofun ?_
        refine TO.guard_true (s := 182) rfl rfl ?_
        refine TO.rd rfl rfl (rd_pick_false (v := .bool _) rfl rfl) ?_
        refine TO.guard_true (s := 182) rfl rfl ?_
        refine TO.rd rfl rfl (rd_b (b := true) (rd_eqb Tryd.under4 rfl rfl) (by simp only [numR, timR, bothR]; (repeat' split) <;> first | omega | (simp; done) | (simp; omega))) ?_
        refine TO.rd rfl rfl (rd_pick_true (v := .bool _) rfl rfl) ?_
        refine TO.rd rfl rfl (rd_assign (v := .bool _) rfl) ?_
        refine TO.nil ?_
        refine TQ.then_normal ?_
        refine T.ret ?_
        refine TQ.value ?_ (res1 Tryd.results7 (Res.tmp (v := .bool _) rfl)) _ (.inl rfl)
        rfl
      try simp only [decide_eq_true_eq, decide_eq_false_iff_not, Bool.not_eq_true', Bool.not_eq_false', Bool.not_eq_eq_eq_not, Bool.not_true, Bool.not_false, beq_iff_eq, beq_eq_false_iff_ne, bne_iff_ne, bne_eq_false_iff_eq, ne_eq, Int.not_lt, Int.not_le, Decidable.not_not] at h19
      refine TO.guard_true (s := 104) rfl rfl ?_
      refine TO.rd rfl rfl (rd_move (v := .int _ _) rfl) ?_
      refine TO.guard_true (s := 104) rfl rfl ?_
      refine TO.rd rfl rfl (rd_fieldAddr Tryd.field31_5 rfl) ?_
      refine TO.guard_true (s := 104) rfl rfl ?_
      refine TO.rd rfl rfl (rd_fieldAddr Tryd.field29_1 rfl) ?_
      refine TO.guard_true (s := 104) rfl rfl ?_
      refine TO.rd rfl rfl (rd_load (v := .int _ _) Tryd.one3 rfl (Has.own 2 rfl) rfl) ?_
      refine TO.guard_true (s := 104) rfl rfl ?_
      refine TO.rd rfl rfl (rd_geq rfl rfl) ?_
      refine TO.rd rfl rfl (rd_pick_false (v := .bool _) rfl rfl) ?_
      refine TO.rd rfl rfl (rd_assign (v := .bool _) rfl) ?_
      refine TO.nil ?_
      refine TQ.then_normal ?_
      refine T.seq ?_
      refine T.region ?_
      refine TO.rd rfl rfl (rd_move (v := .slice _ _ _) rfl) ?_
      refine TO.rd rfl rfl (rd_load_agg (cs := #[.int _ _, .int _ _, .int _ _, .int _ _, .int _ _, .int _ _, .int _ _, .int _ _, .string _]) Tryd.agg31 rfl (Has.own 2 rfl) rfl rfl) ?_
      refine TO.rd rfl rfl (rd_move (v := .slice _ _ _) rfl) ?_
      refine TO.rd rfl rfl (rd_move (v := .int _ _) rfl) ?_
      refine TO.rd rfl rfl (rd_fieldAddr Tryd.field31_5 rfl) ?_
      refine TO.rd rfl rfl (rd_fieldAddr Tryd.field29_0 rfl) ?_
      refine TO.rd rfl rfl (rd_load (v := .int _ _) Tryd.one3 rfl (Has.own 2 rfl) rfl) ?_
      refine TO.fn Tryd.enters23 (cv_w (c_wish_Why _ _ _ (keysN 10) (by first | rfl | simp | omega) (madeW u) _ _ _ (madeL u) (by first | rfl | simp | omega) (nu) ((madeW u).slo) (by first | omega | assumption | (rw [keysN_len]; omega)) (by first | omega | assumption | (simp; done) | (simp only [List.length_drop, List.length_take, List.length_append]; omega))) (M.whyB nu)) rfl (ReadsC (Has.arg 0 rfl) (ReadsC (row_slc' (e := eStr) (xs := (keysN 10)) (fun _ => rfl) (by first | rfl | omega | simp) (rfl) (Has.own 1 rfl)) (ReadsC (row_slc' (e := proxyL) (xs := (madeL u)) (fun _ => rfl) (rfl) (rfl) (Has.own 3 rfl)) Reads0))) ?_
      refine TO.rd rfl rfl (rd_move (v := .tuple _) rfl) ?_
      refine TO.rd rfl rfl (rd_extract (v := .int _ _) (vs := _) rfl rfl) ?_
      refine TO.rd rfl rfl (rd_extract (v := .int _ _) (vs := _) rfl rfl) ?_
      refine TO.rd rfl rfl (rd_assign (v := .int _ _) rfl) ?_
      refine TO.rd rfl rfl (rd_assign (v := .int _ _) rfl) ?_
      refine TO.nil ?_
      refine TQ.then_normal ?_
      refine T.seq ?_
      refine T.region ?_
      refine TO.rd rfl rfl (rd_move (v := .slice _ _ _) rfl) ?_
      refine TO.rd rfl rfl (rd_load_agg (cs := #[.int _ _, .int _ _, .int _ _, .int _ _, .int _ _, .int _ _, .int _ _, .int _ _, .string _]) Tryd.agg31 rfl (Has.own 2 rfl) rfl rfl) ?_
      refine TO.rd rfl rfl (rd_move (v := .slice _ _ _) rfl) ?_
      refine TO.rd rfl rfl (rd_fieldAddr Tryd.field31_2 rfl) ?_
      refine TO.rd rfl rfl (rd_fieldAddr Tryd.field28_0 rfl) ?_
      refine TO.rd rfl rfl (rd_load (v := .int _ _) Tryd.one3 rfl (Has.own 2 rfl) rfl) ?_
      refine TO.rd rfl rfl (rd_move (v := .int _ _) rfl) ?_
      refine TO.fn Tryd.enters23 (cv_w (c_wish_Why _ _ _ (keysN 10) (by first | rfl | simp | omega) (madeW u) _ _ _ (madeL u) (by first | rfl | simp | omega) ((madeW u).rlo) (t) (by first | omega | assumption | (rw [keysN_len]; omega)) (by first | omega | assumption | (simp; done) | (simp only [List.length_drop, List.length_take, List.length_append]; omega))) (M.whyC t)) rfl (ReadsC (Has.arg 0 rfl) (ReadsC (row_slc' (e := eStr) (xs := (keysN 10)) (fun _ => rfl) (by first | rfl | omega | simp) (rfl) (Has.own 1 rfl)) (ReadsC (row_slc' (e := proxyL) (xs := (madeL u)) (fun _ => rfl) (rfl) (rfl) (Has.own 3 rfl)) Reads0))) ?_
      refine TO.rd rfl rfl (rd_move (v := .tuple _) rfl) ?_
      refine TO.rd rfl rfl (rd_extract (v := .int _ _) (vs := _) rfl rfl) ?_
      refine TO.rd rfl rfl (rd_extract (v := .int _ _) (vs := _) rfl rfl) ?_
      refine TO.rd rfl rfl (rd_assign (v := .int _ _) rfl) ?_
      refine TO.rd rfl rfl (rd_assign (v := .int _ _) rfl) ?_
      refine TO.nil ?_
      refine TQ.then_normal ?_
      refine T.seq ?_
      refine T.region ?_
      refine TO.rd rfl rfl (rd_move (v := .slice _ _ _) rfl) ?_
      refine TO.rd rfl rfl (rd_load_agg (cs := #[.int _ _, .int _ _, .int _ _, .int _ _, .int _ _, .int _ _, .int _ _, .int _ _, .string _]) Tryd.agg31 rfl (Has.own 2 rfl) rfl rfl) ?_
      refine TO.rd rfl rfl (rd_move (v := .slice _ _ _) rfl) ?_
      refine TO.rd rfl rfl (rd_move (v := .int _ _) rfl) ?_
      refine TO.rd rfl rfl (rd_move (v := .int _ _) rfl) ?_
      refine TO.fn Tryd.enters23 (cv_w (c_wish_Why _ _ _ (keysN 10) (by first | rfl | simp | omega) (madeW u) _ _ _ (madeL u) (by first | rfl | simp | omega) (nu) (t) (by first | omega | assumption | (rw [keysN_len]; omega)) (by first | omega | assumption | (simp; done) | (simp only [List.length_drop, List.length_take, List.length_append]; omega))) (M.whyD nu t)) rfl (ReadsC (Has.arg 0 rfl) (ReadsC (row_slc' (e := eStr) (xs := (keysN 10)) (fun _ => rfl) (by first | rfl | omega | simp) (rfl) (Has.own 1 rfl)) (ReadsC (row_slc' (e := proxyL) (xs := (madeL u)) (fun _ => rfl) (rfl) (rfl) (Has.own 3 rfl)) Reads0))) ?_
      refine TO.rd rfl rfl (rd_move (v := .tuple _) rfl) ?_
      refine TO.rd rfl rfl (rd_extract (v := .int _ _) (vs := _) rfl rfl) ?_
      refine TO.rd rfl rfl (rd_extract (v := .int _ _) (vs := _) rfl rfl) ?_
      refine TO.rd rfl rfl (rd_assign (v := .int _ _) rfl) ?_
      refine TO.rd rfl rfl (rd_assign (v := .int _ _) rfl) ?_
      refine TO.nil ?_
      refine TQ.then_normal ?_
      refine T.seq ?_
      refine T.seq ?_
      refine T.region ?_
      refine TO.rd rfl rfl (rd_move (v := .int _ _) rfl) ?_
      refine TO.rd rfl rfl (rd_b (b := false) (rd_neq rfl rfl) (by first | exact decide_eq_false (by omega) | (rw [bne_eq_false_iff_eq]; omega) | (simp; done) | (simp; omega))) ?_
      refine TO.rd rfl rfl (rd_move (v := .bool _) rfl) ?_
      refine TO.guard_true (s := 144) rfl rfl ?_
      refine TO.rd rfl rfl (rd_move (v := .int _ _) rfl) ?_
      refine TO.guard_true (s := 144) rfl rfl ?_
      refine TO.rd rfl rfl (rd_b (b := false) (rd_neq rfl rfl) (by first | exact decide_eq_false (by omega) | (rw [bne_eq_false_iff_eq]; omega) | (simp; done) | (simp; omega))) ?_
      refine TO.rd rfl rfl (rd_pick_false (v := .bool _) rfl rfl) ?_
      refine TO.rd rfl rfl (rd_move (v := .bool _) rfl) ?_
      refine TO.guard_true (s := 148) rfl rfl ?_
      refine TO.rd rfl rfl (rd_move (v := .int _ _) rfl) ?_
      refine TO.guard_true (s := 148) rfl rfl ?_
      refine TO.rd rfl rfl (rd_b (b := false) (rd_neq rfl rfl) (by first | exact decide_eq_false (by omega) | (rw [bne_eq_false_iff_eq]; omega) | (simp; done) | (simp; omega))) ?_
      refine TO.rd rfl rfl (rd_pick_false (v := .bool _) rfl rfl) ?_
      refine TO.rd rfl rfl (rd_move (v := .bool _) rfl) ?_
      refine TO.guard_true (s := 152) rfl rfl ?_
      refine TO.rd rfl rfl (rd_move (v := .int _ _) rfl) ?_
      refine TO.guard_true (s := 152) rfl rfl ?_
      refine TO.rd rfl rfl (rd_eql rfl rfl) ?_
      refine TO.guard_true (s := 152) rfl rfl ?_
      refine TO.rd rfl rfl (rd_move (v := .bool _) rfl) ?_
      refine TO.guard_true (s := 152) rfl rfl ?_
      refine TO.rd rfl rfl (rd_b (b := false) (rd_neb Tryd.under4 rfl rfl) (by simp only [numR, timR, bothR]; (repeat' split) <;> first | omega | (simp; done) | (simp; omega))) ?_
      refine TO.rd rfl rfl (rd_pick_false (v := .bool _) rfl rfl) ?_
      refine TO.rd rfl rfl (rd_move (v := .bool _) rfl) ?_
      refine TO.guard_true (s := 158) rfl rfl ?_
      refine TO.rd rfl rfl (rd_move (v := .int _ _) rfl) ?_
      refine TO.guard_true (s := 158) rfl rfl ?_
      refine TO.rd rfl rfl (rd_eql rfl rfl) ?_
      refine TO.guard_true (s := 158) rfl rfl ?_
      refine TO.rd rfl rfl (rd_move (v := .bool _) rfl) ?_
      refine TO.guard_true (s := 158) rfl rfl ?_
      refine TO.rd rfl rfl (rd_b (b := false) (rd_neb Tryd.under4 rfl rfl) (by simp only [numR, timR, bothR]; (repeat' split) <;> first | omega | (simp; done) | (simp; omega))) ?_
      refine TO.rd rfl rfl (rd_pick_false (v := .bool _) rfl rfl) ?_
      refine TO.rd rfl rfl (rd_move (v := .bool _) rfl) ?_
      refine TO.guard_true (s := 164) rfl rfl ?_
      refine TO.rd rfl rfl (rd_move (v := .int _ _) rfl) ?_
      refine TO.guard_true (s := 164) rfl rfl ?_
      refine TO.rd rfl rfl (rd_eql rfl rfl) ?_
      refine TO.guard_true (s := 164) rfl rfl ?_
      refine TO.rd rfl rfl (rd_move (v := .bool _) rfl) ?_
      refine TO.guard_true (s := 164) rfl rfl ?_
      refine TO.rd rfl rfl (rd_b (b := false) (rd_neb Tryd.under4 rfl rfl) (by simp only [numR, timR, bothR]; (repeat' split) <;> first | omega | (simp; done) | (simp; omega))) ?_
      refine TO.rd rfl rfl (rd_pick_false (v := .bool _) rfl rfl) ?_
      refine TO.nil ?_
      refine TQ.then_normal ?_
      refine T.cond_false rfl ?_
      refine T.skip ?_
      refine TQ.then_normal ?_
      refine T.seq ?_
      refine T.region ?_
      refine TO.rd rfl rfl (rd_move (v := .int _ _) rfl) ?_
      refine TO.rd rfl rfl (rd_eql rfl rfl) ?_
      refine TO.rd rfl rfl (rd_move (v := .bool _) rfl) ?_
      refine TO.rd rfl rfl (rd_not rfl) ?_
      refine TO.rd rfl rfl (rd_b (b := true) (rd_eqb Tryd.under4 rfl rfl) (by simp only [numR, timR, bothR]; (repeat' split) <;> first | omega | (simp; done) | (simp; omega))) ?_
      refine TO.rd rfl rfl (rd_move (v := .bool _) rfl) ?_
      refine TO.guard_true (s := 175) rfl rfl ?_
      refine TO.rd rfl rfl (rd_move (v := .int _ _) rfl) ?_
      refine TO.guard_true (s := 175) rfl rfl ?_
      refine TO.rd rfl rfl (rd_eql rfl rfl) ?_
      refine TO.guard_true (s := 175) rfl rfl ?_
      refine TO.rd rfl rfl (rd_move (v := .bool _) rfl) ?_
      refine TO.guard_true (s := 175) rfl rfl ?_
      refine TO.rd rfl rfl (rd_not rfl) ?_
      refine TO.guard_true (s := 175) rfl rfl ?_
      refine TO.rd rfl rfl (rd_b (b := true) (rd_eqb Tryd.under4 rfl rfl) (by simp only [numR, timR, bothR]; (repeat' split) <;> first | omega | (simp; done) | (simp; omega))) ?_
      refine TO.rd rfl rfl (rd_pick_true (v := .bool _) rfl rfl) ?_
      refine TO.rd rfl rfl (rd_move (v := .bool _) rfl) ?_
      refine TO.guard_true (s := 182) rfl rfl ?_
      refine TO.rd rfl rfl (rd_move (v := .int _ _) rfl) ?_
      refine TO.guard_true (s := 182) rfl rfl ?_
      refine TO.rd rfl rfl (rd_eql rfl rfl) ?_
      refine TO.guard_true (s := 182) rfl rfl ?_
      refine TO.rd rfl rfl (rd_move (v := .bool _) rfl) ?_
      refine TO.guard_true (s := 182) rfl rfl ?_
      refine TO.rd rfl rfl (rd_not rfl) ?_
      refine TO.guard_true (s := 182) rfl rfl ?_
      refine TO.rd rfl rfl (rd_move (v := .bool _) rfl) ?_
      refine TO.guard_false (s := 187) (b' := false) rfl rfl nofun ?_
      refine TO.guard_false (s := 187) (b' := false) rfl rfl nofun ?_
      refine TO.guard_true (s := 182) rfl rfl ?_
      refine TO.rd rfl rfl (rd_pick_false (v := .bool _) rfl rfl) ?_
      refine TO.guard_true (s := 182) rfl rfl ?_
      refine TO.rd rfl rfl (rd_b (b := true) (rd_eqb Tryd.under4 rfl rfl) (by simp only [numR, timR, bothR]; (repeat' split) <;> first | omega | (simp; done) | (simp; omega))) ?_
      refine TO.rd rfl rfl (rd_pick_true (v := .bool _) rfl rfl) ?_
      refine TO.rd rfl rfl (rd_assign (v := .bool _) rfl) ?_
      refine TO.nil ?_
      refine TQ.then_normal ?_
      refine T.ret ?_
      refine TQ.value ?_ (res1 Tryd.results7 (Res.tmp (v := .bool _) rfl)) _ (.inl rfl)
      rfl
    try simp only [decide_eq_true_eq, decide_eq_false_iff_not, Bool.not_eq_true', Bool.not_eq_false', Bool.not_eq_eq_eq_not, Bool.not_true, Bool.not_false, beq_iff_eq, beq_eq_false_iff_ne, bne_iff_ne, bne_eq_false_iff_eq, ne_eq, Int.not_lt, Int.not_le, Decidable.not_not] at h18
    refine TO.guard_true (s := 92) rfl rfl ?_
    refine TO.rd rfl rfl (rd_move (v := .int _ _) rfl) ?_
    refine TO.guard_true (s := 92) rfl rfl ?_
    refine TO.rd rfl rfl (rd_fieldAddr Tryd.field31_2 rfl) ?_
    refine TO.guard_true (s := 92) rfl rfl ?_
    refine TO.rd rfl rfl (rd_fieldAddr Tryd.field28_1 rfl) ?_
    refine TO.guard_true (s := 92) rfl rfl ?_
    refine TO.rd rfl rfl (rd_load (v := .int _ _) Tryd.one3 rfl (Has.own 2 rfl) rfl) ?_
    refine TO.guard_true (s := 92) rfl rfl ?_
    refine TO.rd rfl rfl (rd_geq rfl rfl) ?_
    refine TO.rd rfl rfl (rd_pick_false (v := .bool _) rfl rfl) ?_
    refine TO.rd rfl rfl (rd_assign (v := .bool _) rfl) ?_
    refine TO.nil ?_
    refine TQ.then_normal ?_
    refine T.seq ?_
    refine T.region ?_
    refine TO.rd rfl rfl (rd_move (v := .int _ _) rfl) ?_
    refine TO.rd rfl rfl (rd_fieldAddr Tryd.field31_5 rfl) ?_
    refine TO.rd rfl rfl (rd_fieldAddr Tryd.field29_0 rfl) ?_
    refine TO.rd rfl rfl (rd_load (v := .int _ _) Tryd.one3 rfl (Has.own 2 rfl) rfl) ?_
    refine TO.rd rfl rfl (rd_lss rfl rfl) ?_
    refine TO.rd rfl rfl (rd_move (v := .bool _) rfl) ?_
    refine TO.decide (s := 104) rfl (fun h20 => ?_) (fun h20 => ?_)
    · try simp only [decide_eq_true_eq, decide_eq_false_iff_not, Bool.not_eq_true', Bool.not_eq_false', Bool.not_eq_eq_eq_not, Bool.not_true, Bool.not_false, beq_iff_eq, beq_eq_false_iff_ne, bne_iff_ne, bne_eq_false_iff_eq, ne_eq, Int.not_lt, Int.not_le, Decidable.not_not] at h20
      refine TO.guard_false (s := 104) (b' := true) rfl rfl nofun ?_
      refine TO.guard_false (s := 104) (b' := true) rfl rfl nofun ?_
      refine TO.guard_false (s := 104) (b' := true) rfl rfl nofun ?_
      refine TO.guard_false (s := 104) (b' := true) rfl rfl nofun ?_
      refine TO.guard_false (s := 104) (b' := true) rfl rfl nofun ?_
      refine TO.rd rfl rfl (rd_pick_true (v := .bool _) rfl rfl) ?_
      refine TO.rd rfl rfl (rd_assign (v := .bool _) rfl) ?_
      refine TO.nil ?_
      refine TQ.then_normal ?_
      refine T.seq ?_
      refine T.region ?_
      refine TO.rd rfl rfl (rd_move (v := .slice _ _ _) rfl) ?_
      refine TO.rd rfl rfl (rd_load_agg (cs := #[.int _ _, .int _ _, .int _ _, .int _ _, .int _ _, .int _ _, .int _ _, .int _ _, .string _]) Tryd.agg31 rfl (Has.own 2 rfl) rfl rfl) ?_
      refine TO.rd rfl rfl (rd_move (v := .slice _ _ _) rfl) ?_
      refine TO.rd rfl rfl (rd_move (v := .int _ _) rfl) ?_
      refine TO.rd rfl rfl (rd_fieldAddr Tryd.field31_5 rfl) ?_
      refine TO.rd rfl rfl (rd_fieldAddr Tryd.field29_0 rfl) ?_
      refine TO.rd rfl rfl (rd_load (v := .int _ _) Tryd.one3 rfl (Has.own 2 rfl) rfl) ?_
      refine TO.fn Tryd.enters23 (cv_w (c_wish_Why _ _ _ (keysN 10) (by first | rfl | simp | omega) (madeW u) _ _ _ (madeL u) (by first | rfl | simp | omega) (nu) ((madeW u).slo) (by first | omega | assumption | (rw [keysN_len]; omega)) (by first | omega | assumption | (simp; done) | (simp only [List.length_drop, List.length_take, List.length_append]; omega))) (M.whyB nu)) rfl (ReadsC (Has.arg 0 rfl) (ReadsC (row_slc' (e := eStr) (xs := (keysN 10)) (fun _ => rfl) (by first | rfl | omega | simp) (rfl) (Has.own 1 rfl)) (ReadsC (row_slc' (e := proxyL) (xs := (madeL u)) (fun _ => rfl) (rfl) (rfl) (Has.own 3 rfl)) Reads0))) ?_
      refine TO.rd rfl rfl (rd_move (v := .tuple _) rfl) ?_
      refine TO.rd rfl rfl (rd_extract (v := .int _ _) (vs := _) rfl rfl) ?_
      refine TO.rd rfl rfl (rd_extract (v := .int _ _) (vs := _) rfl rfl) ?_
      refine TO.rd rfl rfl (rd_assign (v := .int _ _) rfl) ?_
      refine TO.rd rfl rfl (rd_assign (v := .int _ _) rfl) ?_
      refine TO.nil ?_
      refine TQ.then_normal ?_
      refine T.seq ?_
      refine T.region ?_
      refine TO.rd rfl rfl (rd_move (v := .slice _ _ _) rfl) ?_
      refine TO.rd rfl rfl (rd_load_agg (cs := #[.int _ _, .int _ _, .int _ _, .int _ _, .int _ _, .int _ _, .int _ _, .int _ _, .string _]) Tryd.agg31 rfl (Has.own 2 rfl) rfl rfl) ?_
      refine TO.rd rfl rfl (rd_move (v := .slice _ _ _) rfl) ?_
      refine TO.rd rfl rfl (rd_fieldAddr Tryd.field31_2 rfl) ?_
      refine TO.rd rfl rfl (rd_fieldAddr Tryd.field28_0 rfl) ?_
      refine TO.rd rfl rfl (rd_load (v := .int _ _) Tryd.one3 rfl (Has.own 2 rfl) rfl) ?_
      refine TO.rd rfl rfl (rd_move (v := .int _ _) rfl) ?_
      refine TO.fn Tryd.enters23 (cv_w (c_wish_Why _ _ _ (keysN 10) (by first | rfl | simp | omega) (madeW u) _ _ _ (madeL u) (by first | rfl | simp | omega) ((madeW u).rlo) (t) (by first | omega | assumption | (rw [keysN_len]; omega)) (by first | omega | assumption | (simp; done) | (simp only [List.length_drop, List.length_take, List.length_append]; omega))) (M.whyC t)) rfl (ReadsC (Has.arg 0 rfl) (ReadsC (row_slc' (e := eStr) (xs := (keysN 10)) (fun _ => rfl) (by first | rfl | omega | simp) (rfl) (Has.own 1 rfl)) (ReadsC (row_slc' (e := proxyL) (xs := (madeL u)) (fun _ => rfl) (rfl) (rfl) (Has.own 3 rfl)) Reads0))) ?_
      refine TO.rd rfl rfl (rd_move (v := .tuple _) rfl) ?_
      refine TO.rd rfl rfl (rd_extract (v := .int _ _) (vs := _) rfl rfl) ?_
      refine TO.rd rfl rfl (rd_extract (v := .int _ _) (vs := _) rfl rfl) ?_
      refine TO.rd rfl rfl (rd_assign (v := .int _ _) rfl) ?_
      refine TO.rd rfl rfl (rd_assign (v := .int _ _) rfl) ?_
      refine TO.nil ?_
      refine TQ.then_normal ?_
      refine T.seq ?_
      refine T.region ?_
      refine TO.rd rfl rfl (rd_move (v := .slice _ _ _) rfl) ?_
      refine TO.rd rfl rfl (rd_load_agg (cs := #[.int _ _, .int _ _, .int _ _, .int _ _, .int _ _, .int _ _, .int _ _, .int _ _, .string _]) Tryd.agg31 rfl (Has.own 2 rfl) rfl rfl) ?_
      refine TO.rd rfl rfl (rd_move (v := .slice _ _ _) rfl) ?_
      refine TO.rd rfl rfl (rd_move (v := .int _ _) rfl) ?_
      refine TO.rd rfl rfl (rd_move (v := .int _ _) rfl) ?_
      refine TO.fn Tryd.enters23 (cv_w (c_wish_Why _ _ _ (keysN 10) (by first | rfl | simp | omega) (madeW u) _ _ _ (madeL u) (by first | rfl | simp | omega) (nu) (t) (by first | omega | assumption | (rw [keysN_len]; omega)) (by first | omega | assumption | (simp; done) | (simp only [List.length_drop, List.length_take, List.length_append]; omega))) (M.whyD nu t)) rfl (ReadsC (Has.arg 0 rfl) (ReadsC (row_slc' (e := eStr) (xs := (keysN 10)) (fun _ => rfl) (by first | rfl | omega | simp) (rfl) (Has.own 1 rfl)) (ReadsC (row_slc' (e := proxyL) (xs := (madeL u)) (fun _ => rfl) (rfl) (rfl) (Has.own 3 rfl)) Reads0))) ?_
      refine TO.rd rfl rfl (rd_move (v := .tuple _) rfl) ?_
      refine TO.rd rfl rfl (rd_extract (v := .int _ _) (vs := _) rfl rfl) ?_
      refine TO.rd rfl rfl (rd_extract (v := .int _ _) (vs := _) rfl rfl) ?_
      refine TO.rd rfl rfl (rd_assign (v := .int _ _) rfl) ?_
      refine TO.rd rfl rfl (rd_assign (v := .int _ _) rfl) ?_
      refine TO.nil ?_
      refine TQ.then_normal ?_
      refine T.seq ?_
      refine T.seq ?_
      refine T.region ?_
      refine TO.rd rfl rfl (rd_move (v := .int _ _) rfl) ?_
      refine TO.rd rfl rfl (rd_b (b := false) (rd_neq rfl rfl) (by first | exact decide_eq_false (by omega) | (rw [bne_eq_false_iff_eq]; omega) | (simp; done) | (simp; omega))) ?_
      refine TO.rd rfl rfl (rd_move (v := .bool _) rfl) ?_
      refine TO.guard_true (s := 144) rfl rfl ?_
      refine TO.rd rfl rfl (rd_move (v := .int _ _) rfl) ?_
      refine TO.guard_true (s := 144) rfl rfl ?_
      refine TO.rd rfl rfl (rd_b (b := false) (rd_neq rfl rfl) (by first | exact decide_eq_false (by omega) | (rw [bne_eq_false_iff_eq]; omega) | (simp; done) | (simp; omega))) ?_
      refine TO.rd rfl rfl (rd_pick_false (v := .bool _) rfl rfl) ?_
      refine TO.rd rfl rfl (rd_move (v := .bool _) rfl) ?_
      refine TO.guard_true (s := 148) rfl rfl ?_
      refine TO.rd rfl rfl (rd_move (v := .int _ _) rfl) ?_
      refine TO.guard_true (s := 148) rfl rfl ?_
      refine TO.rd rfl rfl (rd_b (b := false) (rd_neq rfl rfl) (by first | exact decide_eq_false (by omega) | (rw [bne_eq_false_iff_eq]; omega) | (simp; done) | (simp; omega))) ?_
      refine TO.rd rfl rfl (rd_pick_false (v := .bool _) rfl rfl) ?_
      refine TO.rd rfl rfl (rd_move (v := .bool _) rfl) ?_
      refine TO.guard_true (s := 152) rfl rfl ?_
      refine TO.rd rfl rfl (rd_move (v := .int _ _) rfl) ?_
      refine TO.guard_true (s := 152) rfl rfl ?_
      refine TO.rd rfl rfl (rd_eql rfl rfl) ?_
      refine TO.guard_true (s := 152) rfl rfl ?_
      refine TO.rd rfl rfl (rd_move (v := .bool _) rfl) ?_
      refine TO.guard_true (s := 152) rfl rfl ?_
      refine TO.rd rfl rfl (rd_b (b := false) (rd_neb Tryd.under4 rfl rfl) (by simp only [numR, timR, bothR]; (repeat' split) <;> first | omega | (simp; done) | (simp; omega))) ?_
      refine TO.rd rfl rfl (rd_pick_false (v := .bool _) rfl rfl) ?_
      refine TO.rd rfl rfl (rd_move (v := .bool _) rfl) ?_
      refine TO.guard_true (s := 158) rfl rfl ?_
      refine TO.rd rfl rfl (rd_move (v := .int _ _) rfl) ?_
      refine TO.guard_true (s := 158) rfl rfl ?_
      refine TO.rd rfl rfl (rd_eql rfl rfl) ?_
      refine TO.guard_true (s := 158) rfl rfl ?_
      refine TO.rd rfl rfl (rd_move (v := .bool _) rfl) ?_
      refine TO.guard_true (s := 158) rfl rfl ?_
      refine TO.rd rfl rfl (rd_b (b := false) (rd_neb Tryd.under4 rfl rfl) (by simp only [numR, timR, bothR]; (repeat' split) <;> first | omega | (simp; done) | (simp; omega))) ?_
      refine TO.rd rfl rfl (rd_pick_false (v := .bool _) rfl rfl) ?_
      refine TO.rd rfl rfl (rd_move (v := .bool _) rfl) ?_
      refine TO.guard_true (s := 164) rfl rfl ?_
      refine TO.rd rfl rfl (rd_move (v := .int _ _) rfl) ?_
      refine TO.guard_true (s := 164) rfl rfl ?_
      refine TO.rd rfl rfl (rd_eql rfl rfl) ?_
      refine TO.guard_true (s := 164) rfl rfl ?_
      refine TO.rd rfl rfl (rd_move (v := .bool _) rfl) ?_
      refine TO.guard_true (s := 164) rfl rfl ?_
      refine TO.rd rfl rfl (rd_b (b := false) (rd_neb Tryd.under4 rfl rfl) (by simp only [numR, timR, bothR]; (repeat' split) <;> first | omega | (simp; done) | (simp; omega))) ?_
      refine TO.rd rfl rfl (rd_pick_false (v := .bool _) rfl rfl) ?_
      refine TO.nil ?_
      refine TQ.then_normal ?_
      refine T.cond_false rfl ?_
      refine T.skip ?_
      refine TQ.then_normal ?_
      refine T.seq ?_
      refine T.region ?_
      refine TO.rd rfl rfl (rd_move (v := .int _ _) rfl) ?_
      refine TO.rd rfl rfl (rd_eql rfl rfl) ?_
      refine TO.rd rfl rfl (rd_move (v := .bool _) rfl) ?_
      refine TO.rd rfl rfl (rd_not rfl) ?_
      refine TO.rd rfl rfl (rd_b (b := true) (rd_eqb Tryd.under4 rfl rfl) (by simp only [numR, timR, bothR]; (repeat' split) <;> first | omega | (simp; done) | (simp; omega))) ?_
      refine TO.rd rfl rfl (rd_move (v := .bool _) rfl) ?_
      refine TO.guard_true (s := 175) rfl rfl ?_
      refine TO.rd rfl rfl (rd_move (v := .int _ _) rfl) ?_
      refine TO.guard_true (s := 175) rfl rfl ?_
      refine TO.rd rfl rfl (rd_eql rfl rfl) ?_
      refine TO.guard_true (s := 175) rfl rfl ?_
      refine TO.rd rfl rfl (rd_move (v := .bool _) rfl) ?_
      refine TO.guard_true (s := 175) rfl rfl ?_
      refine TO.rd rfl rfl (rd_not rfl) ?_
      refine TO.guard_true (s := 175) rfl rfl ?_
      refine TO.rd rfl rfl (rd_b (b := true) (rd_eqb Tryd.under4 rfl rfl) (by simp only [numR, timR, bothR]; (repeat' split) <;> first | omega | (simp; done) | (simp; omega))) ?_
      refine TO.rd rfl rfl (rd_pick_true (v := .bool _) rfl rfl) ?_
      refine TO.rd rfl rfl (rd_move (v := .bool _) rfl) ?_
      refine TO.guard_true (s := 182) rfl rfl ?_
      refine TO.rd rfl rfl (rd_move (v := .int _ _) rfl) ?_
      refine TO.guard_true (s := 182) rfl rfl ?_
      refine TO.rd rfl rfl (rd_eql rfl rfl) ?_
      refine TO.guard_true (s := 182) rfl rfl ?_
      refine TO.rd rfl rfl (rd_move (v := .bool _) rfl) ?_
      refine TO.guard_true (s := 182) rfl rfl ?_
      refine TO.rd rfl rfl (rd_not rfl) ?_
      refine TO.guard_true (s := 182) rfl rfl ?_
      refine TO.rd rfl rfl (rd_move (v := .bool _) rfl) ?_
      refine TO.decide_ft (s := 187) rfl (fun h21 => ?_) (fun h21 => ?_)
      · try simp only [decide_eq_true_eq, decide_eq_false_iff_not, Bool.not_eq_true', Bool.not_eq_false', Bool.not_eq_eq_eq_not, Bool.not_true, Bool.not_false, beq_iff_eq, beq_eq_false_iff_ne, bne_iff_ne, bne_eq_false_iff_eq, ne_eq, Int.not_lt, Int.not_le, Decidable.not_not] at h21
        refine TO.guard_false (s := 187) (b' := false) rfl rfl nofun ?_
        refine TO.guard_false (s := 187) (b' := false) rfl rfl nofun ?_
        refine TO.guard_true (s := 182) rfl rfl ?_
        refine TO.rd rfl rfl (rd_pick_false (v := .bool _) rfl rfl) ?_
        refine TO.guard_true (s := 182) rfl rfl ?_
        refine TO.rd rfl rfl (rd_b (b := true) (rd_eqb Tryd.under4 rfl rfl) (by simp only [numR, timR, bothR]; (repeat' split) <;> first | omega | (simp; done) | (simp; omega))) ?_
        refine TO.rd rfl rfl (rd_pick_true (v := .bool _) rfl rfl) ?_
        refine TO.rd rfl rfl (rd_assign (v := .bool _) rfl) ?_
        refine TO.nil ?_
        refine TQ.then_normal ?_
        refine T.ret ?_
        refine TQ.value ?_ (res1 Tryd.results7 (Res.tmp (v := .bool _) rfl)) _ (.inl rfl)
        rfl
      try simp only [decide_eq_true_eq, decide_eq_false_iff_not, Bool.not_eq_true', Bool.not_eq_false', Bool.not_eq_eq_eq_not, Bool.not_true, Bool.not_false, beq_iff_eq, beq_eq_false_iff_ne, bne_iff_ne, bne_eq_false_iff_eq, ne_eq, Int.not_lt, Int.not_le, Decidable.not_not] at h21
      refine TO.guard_true (s := 187) rfl rfl ?_
      refine TO.rd rfl rfl (rd_move (v := .bool _) rfl) ?_
      refine TO.guard_true (s := 187) rfl rfl ?_
      refine TO.rd rfl rfl (rd_not rfl) ?_
      refine TO.guard_true (s := 182) rfl rfl ?_
      refine TO.rd rfl rfl (rd_pick_true (v := .bool _) rfl rfl) ?_
      refine TO.guard_true (s := 182) rfl rfl ?_
      refine TO.rd rfl rfl (rd_b (b := true) (rd_eqb Tryd.under4 rfl rfl) (by simp only [numR, timR, bothR]; (repeat' split) <;> first | omega | (simp; done) | (simp; omega))) ?_
      refine TO.rd rfl rfl (rd_pick_true (v := .bool _) rfl rfl) ?_
      refine TO.rd rfl rfl (rd_assign (v := .bool _) rfl) ?_
      refine TO.nil ?_
      refine TQ.then_normal ?_
      refine T.ret ?_
      refine TQ.value ?_ (res1 Tryd.results7 (Res.tmp (v := .bool _) rfl)) _ (.inl rfl)
      rfl
    try simp only [decide_eq_true_eq, decide_eq_false_iff_not, Bool.not_eq_true', Bool.not_eq_false', Bool.not_eq_eq_eq_not, Bool.not_true, Bool.not_false, beq_iff_eq, beq_eq_false_iff_ne, bne_iff_ne, bne_eq_false_iff_eq, ne_eq, Int.not_lt, Int.not_le, Decidable.not_not] at h20
    refine TO.guard_true (s := 104) rfl rfl ?_
    refine TO.rd rfl rfl (rd_move (v := .int _ _) rfl) ?_
    refine TO.guard_true (s := 104) rfl rfl ?_
    refine TO.rd rfl rfl (rd_fieldAddr Tryd.field31_5 rfl) ?_
    refine TO.guard_true (s := 104) rfl rfl ?_
    refine TO.rd rfl rfl (rd_fieldAddr Tryd.field29_1 rfl) ?_
    refine TO.guard_true (s := 104) rfl rfl ?_
    refine TO.rd rfl rfl (rd_load (v := .int _ _) Tryd.one3 rfl (Has.own 2 rfl) rfl) ?_
    refine TO.guard_true (s := 104) rfl rfl ?_
    refine TO.rd rfl rfl (rd_geq rfl rfl) ?_
    refine TO.rd rfl rfl (rd_pick_false (v := .bool _) rfl rfl) ?_
    refine TO.rd rfl rfl (rd_assign (v := .bool _) rfl) ?_
    refine TO.nil ?_
    refine TQ.then_normal ?_
    refine T.seq ?_
    refine T.region ?_
    refine TO.rd rfl rfl (rd_move (v := .slice _ _ _) rfl) ?_
    refine TO.rd rfl rfl (rd_load_agg (cs := #[.int _ _, .int _ _, .int _ _, .int _ _, .int _ _, .int _ _, .int _ _, .int _ _, .string _]) Tryd.agg31 rfl (Has.own 2 rfl) rfl rfl) ?_
    refine TO.rd rfl rfl (rd_move (v := .slice _ _ _) rfl) ?_
    refine TO.rd rfl rfl (rd_move (v := .int _ _) rfl) ?_
    refine TO.rd rfl rfl (rd_fieldAddr Tryd.field31_5 rfl) ?_
    refine TO.rd rfl rfl (rd_fieldAddr Tryd.field29_0 rfl) ?_
    refine TO.rd rfl rfl (rd_load (v := .int _ _) Tryd.one3 rfl (Has.own 2 rfl) rfl) ?_
    refine TO.fn Tryd.enters23 (cv_w (c_wish_Why _ _ _ (keysN 10) (by first | rfl | simp | omega) (madeW u) _ _ _ (madeL u) (by first | rfl | simp | omega) (nu) ((madeW u).slo) (by first | omega | assumption | (rw [keysN_len]; omega)) (by first | omega | assumption | (simp; done) | (simp only [List.length_drop, List.length_take, List.length_append]; omega))) (M.whyB nu)) rfl (ReadsC (Has.arg 0 rfl) (ReadsC (row_slc' (e := eStr) (xs := (keysN 10)) (fun _ => rfl) (by first | rfl | omega | simp) (rfl) (Has.own 1 rfl)) (ReadsC (row_slc' (e := proxyL) (xs := (madeL u)) (fun _ => rfl) (rfl) (rfl) (Has.own 3 rfl)) Reads0))) ?_
    refine TO.rd rfl rfl (rd_move (v := .tuple _) rfl) ?_
    refine TO.rd rfl rfl (rd_extract (v := .int _ _) (vs := _) rfl rfl) ?_
    refine TO.rd rfl rfl (rd_extract (v := .int _ _) (vs := _) rfl rfl) ?_
    refine TO.rd rfl rfl (rd_assign (v := .int _ _) rfl) ?_
    refine TO.rd rfl rfl (rd_assign (v := .int _ _) rfl) ?_
    refine TO.nil ?_
    refine TQ.then_normal ?_
    refine T.seq ?_
    refine T.region ?_
    refine TO.rd rfl rfl (rd_move (v := .slice _ _ _) rfl) ?_
    refine TO.rd rfl rfl (rd_load_agg (cs := #[.int _ _, .int _ _, .int _ _, .int _ _, .int _ _, .int _ _, .int _ _, .int _ _, .string _]) Tryd.agg31 rfl (Has.own 2 rfl) rfl rfl) ?_
    refine TO.rd rfl rfl (rd_move (v := .slice _ _ _) rfl) ?_
    refine TO.rd rfl rfl (rd_fieldAddr Tryd.field31_2 rfl) ?_
    refine TO.rd rfl rfl (rd_fieldAddr Tryd.field28_0 rfl) ?_
    refine TO.rd rfl rfl (rd_load (v := .int _ _) Tryd.one3 rfl (Has.own 2 rfl) rfl) ?_
    refine TO.rd rfl rfl (rd_move (v := .int _ _) rfl) ?_
    refine TO.fn Tryd.enters23 (cv_w (c_wish_Why _ _ _ (keysN 10) (by first | rfl | simp | omega) (madeW u) _ _ _ (madeL u) (by first | rfl | simp | omega) ((madeW u).rlo) (t) (by first | omega | assumption | (rw [keysN_len]; omega)) (by first | omega | assumption | (simp; done) | (simp only [List.length_drop, List.length_take, List.length_append]; omega))) (M.whyC t)) rfl (ReadsC (Has.arg 0 rfl) (ReadsC (row_slc' (e := eStr) (xs := (keysN 10)) (fun _ => rfl) (by first | rfl | omega | simp) (rfl) (Has.own 1 rfl)) (ReadsC (row_slc' (e := proxyL) (xs := (madeL u)) (fun _ => rfl) (rfl) (rfl) (Has.own 3 rfl)) Reads0))) ?_
    refine TO.rd rfl rfl (rd_move (v := .tuple _) rfl) ?_
    refine TO.rd rfl rfl (rd_extract (v := .int _ _) (vs := _) rfl rfl) ?_
    refine TO.rd rfl rfl (rd_extract (v := .int _ _) (vs := _) rfl rfl) ?_
    refine TO.rd rfl rfl (rd_assign (v := .int _ _) rfl) ?_
    refine TO.rd rfl rfl (rd_assign (v := .int _ _) rfl) ?_
    refine TO.nil ?_
    refine TQ.then_normal ?_
    refine T.seq ?_
    refine T.region ?_
    refine TO.rd rfl rfl (rd_move (v := .slice _ _ _) rfl) ?_
    refine TO.rd rfl rfl (rd_load_agg (cs := #[.int _ _, .int _ _, .int _ _, .int _ _, .int _ _, .int _ _, .int _ _, .int _ _, .string _]) Tryd.agg31 rfl (Has.own 2 rfl) rfl rfl) ?_
    refine TO.rd rfl rfl (rd_move (v := .slice _ _ _) rfl) ?_
    refine TO.rd rfl rfl (rd_move (v := .int _ _) rfl) ?_
    refine TO.rd rfl rfl (rd_move (v := .int _ _) rfl) ?_
    refine TO.fn Tryd.enters23 (cv_w (c_wish_Why _ _ _ (keysN 10) (by first | rfl | simp | omega) (madeW u) _ _ _ (madeL u) (by first | rfl | simp | omega) (nu) (t) (by first | omega | assumption | (rw [keysN_len]; omega)) (by first | omega | assumption | (simp; done) | (simp only [List.length_drop, List.length_take, List.length_append]; omega))) (M.whyD nu t)) rfl (ReadsC (Has.arg 0 rfl) (ReadsC (row_slc' (e := eStr) (xs := (keysN 10)) (fun _ => rfl) (by first | rfl | omega | simp) (rfl) (Has.own 1 rfl)) (ReadsC (row_slc' (e := proxyL) (xs := (madeL u)) (fun _ => rfl) (rfl) (rfl) (Has.own 3 rfl)) Reads0))) ?_
    refine TO.rd rfl rfl (rd_move (v := .tuple _) rfl) ?_
    refine TO.rd rfl rfl (rd_extract (v := .int _ _) (vs := _) rfl rfl) ?_
    refine TO.rd rfl rfl (rd_extract (v := .int _ _) (vs := _) rfl rfl) ?_
    refine TO.rd rfl rfl (rd_assign (v := .int _ _) rfl) ?_
    refine TO.rd rfl rfl (rd_assign (v := .int _ _) rfl) ?_
    refine TO.nil ?_
    refine TQ.then_normal ?_
    refine T.seq ?_
    refine T.seq ?_
    refine T.region ?_
    refine TO.rd rfl rfl (rd_move (v := .int _ _) rfl) ?_
    refine TO.rd rfl rfl (rd_b (b := false) (rd_neq rfl rfl) (by first | exact decide_eq_false (by omega) | (rw [bne_eq_false_iff_eq]; omega) | (simp; done) | (simp; omega))) ?_
    refine TO.rd rfl rfl (rd_move (v := .bool _) rfl) ?_
    refine TO.guard_true (s := 144) rfl rfl ?_
    refine TO.rd rfl rfl (rd_move (v := .int _ _) rfl) ?_
    refine TO.guard_true (s := 144) rfl rfl ?_
    refine TO.rd rfl rfl (rd_b (b := false) (rd_neq rfl rfl) (by first | exact decide_eq_false (by omega) | (rw [bne_eq_false_iff_eq]; omega) | (simp; done) | (simp; omega))) ?_
    refine TO.rd rfl rfl (rd_pick_false (v := .bool _) rfl rfl) ?_
    refine TO.rd rfl rfl (rd_move (v := .bool _) rfl) ?_
    refine TO.guard_true (s := 148) rfl rfl ?_
    refine TO.rd rfl rfl (rd_move (v := .int _ _) rfl) ?_
    refine TO.guard_true (s := 148) rfl rfl ?_
    refine TO.rd rfl rfl (rd_b (b := false) (rd_neq rfl rfl) (by first | exact decide_eq_false (by omega) | (rw [bne_eq_false_iff_eq]; omega) | (simp; done) | (simp; omega))) ?_
    refine TO.rd rfl rfl (rd_pick_false (v := .bool _) rfl rfl) ?_
    refine TO.rd rfl rfl (rd_move (v := .bool _) rfl) ?_
    refine TO.guard_true (s := 152) rfl rfl ?_
    refine TO.rd rfl rfl (rd_move (v := .int _ _) rfl) ?_
    refine TO.guard_true (s := 152) rfl rfl ?_
    refine TO.rd rfl rfl (rd_eql rfl rfl) ?_
    refine TO.guard_true (s := 152) rfl rfl ?_
    refine TO.rd rfl rfl (rd_move (v := .bool _) rfl) ?_
    refine TO.guard_true (s := 152) rfl rfl ?_
    refine TO.rd rfl rfl (rd_b (b := false) (rd_neb Tryd.under4 rfl rfl) (by simp only [numR, timR, bothR]; (repeat' split) <;> first | omega | (simp; done) | (simp; omega))) ?_
    refine TO.rd rfl rfl (rd_pick_false (v := .bool _) rfl rfl) ?_
    refine TO.rd rfl rfl (rd_move (v := .bool _) rfl) ?_
    refine TO.guard_true (s := 158) rfl rfl ?_
    refine TO.rd rfl rfl (rd_move (v := .int _ _) rfl) ?_
    refine TO.guard_true (s := 158) rfl rfl ?_
    refine TO.rd rfl rfl (rd_eql rfl rfl) ?_
    refine TO.guard_true (s := 158) rfl rfl ?_
    refine TO.rd rfl rfl (rd_move (v := .bool _) rfl) ?_
    refine TO.guard_true (s := 158) rfl rfl ?_
    refine TO.rd rfl rfl (rd_b (b := false) (rd_neb Tryd.under4 rfl rfl) (by simp only [numR, timR, bothR]; (repeat' split) <;> first | omega | (simp; done) | (simp; omega))) ?_
    refine TO.rd rfl rfl (rd_pick_false (v := .bool _) rfl rfl) ?_
    refine TO.rd rfl rfl (rd_move (v := .bool _) rfl) ?_
    refine TO.guard_true (s := 164) rfl rfl ?_
    refine TO.rd rfl rfl (rd_move (v := .int _ _) rfl) ?_
    refine TO.guard_true (s := 164) rfl rfl ?_
    refine TO.rd rfl rfl (rd_eql rfl rfl) ?_
    refine TO.guard_true (s := 164) rfl rfl ?_
    refine TO.rd rfl rfl (rd_move (v := .bool _) rfl) ?_
    refine TO.guard_true (s := 164) rfl rfl ?_
    refine TO.rd rfl rfl (rd_b (b := false) (rd_neb Tryd.under4 rfl rfl) (by simp only [numR, timR, bothR]; (repeat' split) <;> first | omega | (simp; done) | (simp; omega))) ?_
    refine TO.rd rfl rfl (rd_pick_false (v := .bool _) rfl rfl) ?_
    refine TO.nil ?_
    refine TQ.then_normal ?_
    refine T.cond_false rfl ?_
    refine T.skip ?_
    refine TQ.then_normal ?_
    refine T.seq ?_
    refine T.region ?_
    refine TO.rd rfl rfl (rd_move (v := .int _ _) rfl) ?_
    refine TO.rd rfl rfl (rd_eql rfl rfl) ?_
    refine TO.rd rfl rfl (rd_move (v := .bool _) rfl) ?_
    refine TO.rd rfl rfl (rd_not rfl) ?_
    refine TO.rd rfl rfl (rd_b (b := true) (rd_eqb Tryd.under4 rfl rfl) (by simp only [numR, timR, bothR]; (repeat' split) <;> first | omega | (simp; done) | (simp; omega))) ?_
    refine TO.rd rfl rfl (rd_move (v := .bool _) rfl) ?_
    refine TO.guard_true (s := 175) rfl rfl ?_
    refine TO.rd rfl rfl (rd_move (v := .int _ _) rfl) ?_
    refine TO.guard_true (s := 175) rfl rfl ?_
    refine TO.rd rfl rfl (rd_eql rfl rfl) ?_
    refine TO.guard_true (s := 175) rfl rfl ?_
    refine TO.rd rfl rfl (rd_move (v := .bool _) rfl) ?_
    refine TO.guard_true (s := 175) rfl rfl ?_
    refine TO.rd rfl rfl (rd_not rfl) ?_
    refine TO.guard_true (s := 175) rfl rfl ?_
    refine TO.rd rfl rfl (rd_b (b := true) (rd_eqb Tryd.under4 rfl rfl) (by simp only [numR, timR, bothR]; (repeat' split) <;> first | omega | (simp; done) | (simp; omega))) ?_
    refine TO.rd rfl rfl (rd_pick_true (v := .bool _) rfl rfl) ?_
    refine TO.rd rfl rfl (rd_move (v := .bool _) rfl) ?_
    refine TO.guard_true (s := 182) rfl rfl ?_
    refine TO.rd rfl rfl (rd_move (v := .int _ _) rfl) ?_
    refine TO.guard_true (s := 182) rfl rfl ?_
    refine TO.rd rfl rfl (rd_eql rfl rfl) ?_
    refine TO.guard_true (s := 182) rfl rfl ?_
    refine TO.rd rfl rfl (rd_move (v := .bool _) rfl) ?_
    refine TO.guard_true (s := 182) rfl rfl ?_
    refine TO.rd rfl rfl (rd_not rfl) ?_
    refine TO.guard_true (s := 182) rfl rfl ?_
    refine TO.rd rfl rfl (rd_move (v := .bool _) rfl) ?_
    refine TO.decide_ft (s := 187) rfl (fun h22 => ?_) (fun h22 => ?_)
    · try simp only [decide_eq_true_eq, decide_eq_false_iff_not, Bool.not_eq_true', Bool.not_eq_false', Bool.not_eq_eq_eq_not, Bool.not_true, Bool.not_false, beq_iff_eq, beq_eq_false_iff_ne, bne_iff_ne, bne_eq_false_iff_eq, ne_eq, Int.not_lt, Int.not_le, Decidable.not_not] at h22
      refine TO.guard_false (s := 187) (b' := false) rfl rfl nofun ?_
      refine TO.guard_false (s := 187) (b' := false) rfl rfl nofun ?_
      refine TO.guard_true (s := 182) rfl rfl ?_
      refine TO.rd rfl rfl (rd_pick_false (v := .bool _) rfl rfl) ?_
      refine TO.guard_true (s := 182) rfl rfl ?_
      refine TO.rd rfl rfl (rd_b (b := true) (rd_eqb Tryd.under4 rfl rfl) (by simp only [numR, timR, bothR]; (repeat' split) <;> first | omega | (simp; done) | (simp; omega))) ?_
      refine TO.rd rfl rfl (rd_pick_true (v := .bool _) rfl rfl) ?_
      refine TO.rd rfl rfl (rd_assign (v := .bool _) rfl) ?_
      refine TO.nil ?_
      refine TQ.then_normal ?_
      refine T.ret ?_
      refine TQ.value ?_ (res1 Tryd.results7 (Res.tmp (v := .bool _) rfl)) _ (.inl rfl)
      rfl
    try simp only [decide_eq_true_eq, decide_eq_false_iff_not, Bool.not_eq_true', Bool.not_eq_false', Bool.not_eq_eq_eq_not, Bool.not_true, Bool.not_false, beq_iff_eq, beq_eq_false_iff_ne, bne_iff_ne, bne_eq_false_iff_eq, ne_eq, Int.not_lt, Int.not_le, Decidable.not_not] at h22
    refine TO.guard_true (s := 187) rfl rfl ?_
    refine TO.rd rfl rfl (rd_move (v := .bool _) rfl) ?_
    refine TO.guard_true (s := 187) rfl rfl ?_
    refine TO.rd rfl rfl (rd_not rfl) ?_
    refine TO.guard_true (s := 182) rfl rfl ?_
    refine TO.rd rfl rfl (rd_pick_true (v := .bool _) rfl rfl) ?_
    refine TO.guard_true (s := 182) rfl rfl ?_
    refine TO.rd rfl rfl (rd_b (b := true) (rd_eqb Tryd.under4 rfl rfl) (by simp only [numR, timR, bothR]; (repeat' split) <;> first | omega | (simp; done) | (simp; omega))) ?_
    refine TO.rd rfl rfl (rd_pick_true (v := .bool _) rfl rfl) ?_
    refine TO.rd rfl rfl (rd_assign (v := .bool _) rfl) ?_
    refine TO.nil ?_
    refine TQ.then_normal ?_
    refine T.ret ?_
    refine TQ.value ?_ (res1 Tryd.results7 (Res.tmp (v := .bool _) rfl)) _ (.inl rfl)
    rfl
  try simp only [decide_eq_true_eq, decide_eq_false_iff_not, Bool.not_eq_true', Bool.not_eq_false', Bool.not_eq_eq_eq_not, Bool.not_true, Bool.not_false, beq_iff_eq, beq_eq_false_iff_ne, bne_iff_ne, bne_eq_false_iff_eq, ne_eq, Int.not_lt, Int.not_le, Decidable.not_not] at h12
  refine TO.guard_true (s := 82) rfl rfl ?_
  refine TO.rd rfl rfl (rd_move (v := .int _ _) rfl) ?_
  refine TO.guard_true (s := 82) rfl rfl ?_
  refine TO.rd rfl rfl (rd_b (b := false) (rd_neq rfl rfl) (by rw [w5 (by assumption)]; rfl)) ?_
  refine TO.guard_true (s := 79) rfl rfl ?_
  refine TO.rd rfl rfl (rd_pick_true (v := .bool _) rfl rfl) ?_
  refine TO.rd rfl rfl (rd_pick_false (v := .bool _) rfl rfl) ?_
  refine TO.nil ?_
  refine TQ.then_normal ?_
  refine T.cond_false rfl ?_
  refine T.skip ?_
  refine TQ.then_normal ?_
  refine T.seq ?_
  refine T.region ?_
  refine TO.rd rfl rfl (rd_move (v := .int _ _) rfl) ?_
  refine TO.rd rfl rfl (rd_fieldAddr Tryd.field31_2 rfl) ?_
  refine TO.rd rfl rfl (rd_fieldAddr Tryd.field28_0 rfl) ?_
  refine TO.rd rfl rfl (rd_load (v := .int _ _) Tryd.one3 rfl (Has.own 2 rfl) rfl) ?_
  refine TO.rd rfl rfl (rd_lss rfl rfl) ?_
  refine TO.rd rfl rfl (rd_move (v := .bool _) rfl) ?_
  refine TO.decide (s := 92) rfl (fun h13 => ?_) (fun h13 => ?_)
  · try simp only [decide_eq_true_eq, decide_eq_false_iff_not, Bool.not_eq_true', Bool.not_eq_false', Bool.not_eq_eq_eq_not, Bool.not_true, Bool.not_false, beq_iff_eq, beq_eq_false_iff_ne, bne_iff_ne, bne_eq_false_iff_eq, ne_eq, Int.not_lt, Int.not_le, Decidable.not_not] at h13
    refine TO.guard_false (s := 92) (b' := true) rfl rfl nofun ?_
    refine TO.guard_false (s := 92) (b' := true) rfl rfl nofun ?_
    refine TO.guard_false (s := 92) (b' := true) rfl rfl nofun ?_
    refine TO.guard_false (s := 92) (b' := true) rfl rfl nofun ?_
    refine TO.guard_false (s := 92) (b' := true) rfl rfl nofun ?_
    refine TO.rd rfl rfl (rd_pick_true (v := .bool _) rfl rfl) ?_
    refine TO.rd rfl rfl (rd_assign (v := .bool _) rfl) ?_
    refine TO.nil ?_
    refine TQ.then_normal ?_
    refine T.seq ?_
    refine T.region ?_
    refine TO.rd rfl rfl (rd_move (v := .int _ _) rfl) ?_
    refine TO.rd rfl rfl (rd_fieldAddr Tryd.field31_5 rfl) ?_
    refine TO.rd rfl rfl (rd_fieldAddr Tryd.field29_0 rfl) ?_
    refine TO.rd rfl rfl (rd_load (v := .int _ _) Tryd.one3 rfl (Has.own 2 rfl) rfl) ?_
    refine TO.rd rfl rfl (rd_lss rfl rfl) ?_
    refine TO.rd rfl rfl (rd_move (v := .bool _) rfl) ?_
    refine TO.decide (s := 104) rfl (fun h14 => ?_) (fun h14 => ?_)
    · try simp only [decide_eq_true_eq, decide_eq_false_iff_not, Bool.not_eq_true', Bool.not_eq_false', Bool.not_eq_eq_eq_not, Bool.not_true, Bool.not_false, beq_iff_eq, beq_eq_false_iff_ne, bne_iff_ne, bne_eq_false_iff_eq, ne_eq, Int.not_lt, Int.not_le, Decidable.not_not] at h14
      refine TO.guard_false (s := 104) (b' := true) rfl rfl nofun ?_
      refine TO.guard_false (s := 104) (b' := true) rfl rfl nofun ?_
      refine TO.guard_false (s := 104) (b' := true) rfl rfl nofun ?_
      refine TO.guard_false (s := 104) (b' := true) rfl rfl nofun ?_
      refine TO.guard_false (s := 104) (b' := true) rfl rfl nofun ?_
      refine TO.rd rfl rfl (rd_pick_true (v := .bool _) rfl rfl) ?_
      refine TO.rd rfl rfl (rd_assign (v := .bool _) rfl) ?_
      refine TO.nil ?_
      refine TQ.then_normal ?_
      refine T.seq ?_
      refine T.region ?_
      refine TO.rd rfl rfl (rd_move (v := .slice _ _ _) rfl) ?_
      refine TO.rd rfl rfl (rd_load_agg (cs := #[.int _ _, .int _ _, .int _ _, .int _ _, .int _ _, .int _ _, .int _ _, .int _ _, .string _]) Tryd.agg31 rfl (Has.own 2 rfl) rfl rfl) ?_
      refine TO.rd rfl rfl (rd_move (v := .slice _ _ _) rfl) ?_
      refine TO.rd rfl rfl (rd_move (v := .int _ _) rfl) ?_
      refine TO.rd rfl rfl (rd_fieldAddr Tryd.field31_5 rfl) ?_
      refine TO.rd rfl rfl (rd_fieldAddr Tryd.field29_0 rfl) ?_
      refine TO.rd rfl rfl (rd_load (v := .int _ _) Tryd.one3 rfl (Has.own 2 rfl) rfl) ?_
      refine TO.fn Tryd.enters23 (cv_w (c_wish_Why _ _ _ (keysN 10) (by first | rfl | simp | omega) (madeW u) _ _ _ (madeL u) (by first | rfl | simp | omega) (nu) ((madeW u).slo) (by first | omega | assumption | (rw [keysN_len]; omega)) (by first | omega | assumption | (simp; done) | (simp only [List.length_drop, List.length_take, List.length_append]; omega))) (M.whyB nu)) rfl (ReadsC (Has.arg 0 rfl) (ReadsC (row_slc' (e := eStr) (xs := (keysN 10)) (fun _ => rfl) (by first | rfl | omega | simp) (rfl) (Has.own 1 rfl)) (ReadsC (row_slc' (e := proxyL) (xs := (madeL u)) (fun _ => rfl) (rfl) (rfl) (Has.own 3 rfl)) Reads0))) ?_
      refine TO.rd rfl rfl (rd_move (v := .tuple _) rfl) ?_
      refine TO.rd rfl rfl (rd_extract (v := .int _ _) (vs := _) rfl rfl) ?_
      refine TO.rd rfl rfl (rd_extract (v := .int _ _) (vs := _) rfl rfl) ?_
      refine TO.rd rfl rfl (rd_assign (v := .int _ _) rfl) ?_
      refine TO.rd rfl rfl (rd_assign (v := .int _ _) rfl) ?_
      refine TO.nil ?_
      refine TQ.then_normal ?_
      refine T.seq ?_
      refine T.region ?_
      refine TO.rd rfl rfl (rd_move (v := .slice _ _ _) rfl) ?_
      refine TO.rd rfl rfl (rd_load_agg (cs := #[.int _ _, .int _ _, .int _ _, .int _ _, .int _ _, .int _ _, .int _ _, .int _ _, .string _]) Tryd.agg31 rfl (Has.own 2 rfl) rfl rfl) ?_
      refine TO.rd rfl rfl (rd_move (v := .slice _ _ _) rfl) ?_
      refine TO.rd rfl rfl (rd_fieldAddr Tryd.field31_2 rfl) ?_
      refine TO.rd rfl rfl (rd_fieldAddr Tryd.field28_0 rfl) ?_
      refine TO.rd rfl rfl (rd_load (v := .int _ _) Tryd.one3 rfl (Has.own 2 rfl) rfl) ?_
      refine TO.rd rfl rfl (rd_move (v := .int _ _) rfl) ?_
      refine TO.fn Tryd.enters23 (cv_w (c_wish_Why _ _ _ (keysN 10) (by first | rfl | simp | omega) (madeW u) _ _ _ (madeL u) (by first | rfl | simp | omega) ((madeW u).rlo) (t) (by first | omega | assumption | (rw [keysN_len]; omega)) (by first | omega | assumption | (simp; done) | (simp only [List.length_drop, List.length_take, List.length_append]; omega))) (M.whyC t)) rfl (ReadsC (Has.arg 0 rfl) (ReadsC (row_slc' (e := eStr) (xs := (keysN 10)) (fun _ => rfl) (by first | rfl | omega | simp) (rfl) (Has.own 1 rfl)) (ReadsC (row_slc' (e := proxyL) (xs := (madeL u)) (fun _ => rfl) (rfl) (rfl) (Has.own 3 rfl)) Reads0))) ?_
      refine TO.rd rfl rfl (rd_move (v := .tuple _) rfl) ?_
      refine TO.rd rfl rfl (rd_extract (v := .int _ _) (vs := _) rfl rfl) ?_
      refine TO.rd rfl rfl (rd_extract (v := .int _ _) (vs := _) rfl rfl) ?_
      refine TO.rd rfl rfl (rd_assign (v := .int _ _) rfl) ?_
      refine TO.rd rfl rfl (rd_assign (v := .int _ _) rfl) ?_
      refine TO.nil ?_
      refine TQ.then_normal ?_
      refine T.seq ?_
      refine T.region ?_
      refine TO.rd rfl rfl (rd_move (v := .slice _ _ _) rfl) ?_
      refine TO.rd rfl rfl (rd_load_agg (cs := #[.int _ _, .int _ _, .int _ _, .int _ _, .int _ _, .int _ _, .int _ _, .int _ _, .string _]) Tryd.agg31 rfl (Has.own 2 rfl) rfl rfl) ?_
      refine TO.rd rfl rfl (rd_move (v := .slice _ _ _) rfl) ?_
      refine TO.rd rfl rfl (rd_move (v := .int _ _) rfl) ?_
      refine TO.rd rfl rfl (rd_move (v := .int _ _) rfl) ?_
      refine TO.fn Tryd.enters23 (cv_w (c_wish_Why _ _ _ (keysN 10) (by first | rfl | simp | omega) (madeW u) _ _ _ (madeL u) (by first | rfl | simp | omega) (nu) (t) (by first | omega | assumption | (rw [keysN_len]; omega)) (by first | omega | assumption | (simp; done) | (simp only [List.length_drop, List.length_take, List.length_append]; omega))) (M.whyD nu t)) rfl (ReadsC (Has.arg 0 rfl) (ReadsC (row_slc' (e := eStr) (xs := (keysN 10)) (fun _ => rfl) (by first | rfl | omega | simp) (rfl) (Has.own 1 rfl)) (ReadsC (row_slc' (e := proxyL) (xs := (madeL u)) (fun _ => rfl) (rfl) (rfl) (Has.own 3 rfl)) Reads0))) ?_
      refine TO.rd rfl rfl (rd_move (v := .tuple _) rfl) ?_
      refine TO.rd rfl rfl (rd_extract (v := .int _ _) (vs := _) rfl rfl) ?_
      refine TO.rd rfl rfl (rd_extract (v := .int _ _) (vs := _) rfl rfl) ?_
      refine TO.rd rfl rfl (rd_assign (v := .int _ _) rfl) ?_
      refine TO.rd rfl rfl (rd_assign (v := .int _ _) rfl) ?_
      refine TO.nil ?_
      refine TQ.then_normal ?_
      refine T.seq ?_
      refine T.seq ?_
      refine T.region ?_
      refine TO.rd rfl rfl (rd_move (v := .int _ _) rfl) ?_
      refine TO.rd rfl rfl (rd_b (b := false) (rd_neq rfl rfl) (by first | exact decide_eq_false (by omega) | (rw [bne_eq_false_iff_eq]; omega) | (simp; done) | (simp; omega))) ?_
      refine TO.rd rfl rfl (rd_move (v := .bool _) rfl) ?_
      refine TO.guard_true (s := 144) rfl rfl ?_
      refine TO.rd rfl rfl (rd_move (v := .int _ _) rfl) ?_
      refine TO.guard_true (s := 144) rfl rfl ?_
      refine TO.rd rfl rfl (rd_b (b := false) (rd_neq rfl rfl) (by first | exact decide_eq_false (by omega) | (rw [bne_eq_false_iff_eq]; omega) | (simp; done) | (simp; omega))) ?_
      refine TO.rd rfl rfl (rd_pick_false (v := .bool _) rfl rfl) ?_
      refine TO.rd rfl rfl (rd_move (v := .bool _) rfl) ?_
      refine TO.guard_true (s := 148) rfl rfl ?_
      refine TO.rd rfl rfl (rd_move (v := .int _ _) rfl) ?_
      refine TO.guard_true (s := 148) rfl rfl ?_
      refine TO.rd rfl rfl (rd_b (b := false) (rd_neq rfl rfl) (by first | exact decide_eq_false (by omega) | (rw [bne_eq_false_iff_eq]; omega) | (simp; done) | (simp; omega))) ?_
      refine TO.rd rfl rfl (rd_pick_false (v := .bool _) rfl rfl) ?_
      refine TO.rd rfl rfl (rd_move (v := .bool _) rfl) ?_
      refine TO.guard_true (s := 152) rfl rfl ?_
      refine TO.rd rfl rfl (rd_move (v := .int _ _) rfl) ?_
      refine TO.guard_true (s := 152) rfl rfl ?_
      refine TO.rd rfl rfl (rd_eql rfl rfl) ?_
      refine TO.guard_true (s := 152) rfl rfl ?_
      refine TO.rd rfl rfl (rd_move (v := .bool _) rfl) ?_
      refine TO.guard_true (s := 152) rfl rfl ?_
      refine TO.rd rfl rfl (rd_b (b := false) (rd_neb Tryd.under4 rfl rfl) (by simp only [numR, timR, bothR]; (repeat' split) <;> first | omega | (simp; done) | (simp; omega))) ?_
      refine TO.rd rfl rfl (rd_pick_false (v := .bool _) rfl rfl) ?_
      refine TO.rd rfl rfl (rd_move (v := .bool _) rfl) ?_
      refine TO.guard_true (s := 158) rfl rfl ?_
      refine TO.rd rfl rfl (rd_move (v := .int _ _) rfl) ?_
      refine TO.guard_true (s := 158) rfl rfl ?_
      refine TO.rd rfl rfl (rd_eql rfl rfl) ?_
      refine TO.guard_true (s := 158) rfl rfl ?_
      refine TO.rd rfl rfl (rd_move (v := .bool _) rfl) ?_
      refine TO.guard_true (s := 158) rfl rfl ?_
      refine TO.rd rfl rfl (rd_b (b := false) (rd_neb Tryd.under4 rfl rfl) (by simp only [numR, timR, bothR]; (repeat' split) <;> first | omega | (simp; done) | (simp; omega))) ?_
      refine TO.rd rfl rfl (rd_pick_false (v := .bool _) rfl rfl) ?_
      refine TO.rd rfl rfl (rd_move (v := .bool _) rfl) ?_
      refine TO.guard_true (s := 164) rfl rfl ?_
      refine TO.rd rfl rfl (rd_move (v := .int _ _) rfl) ?_
      refine TO.guard_true (s := 164) rfl rfl ?_
      refine TO.rd rfl rfl (rd_eql rfl rfl) ?_
      refine TO.guard_true (s := 164) rfl rfl ?_
      refine TO.rd rfl rfl (rd_move (v := .bool _) rfl) ?_
      refine TO.guard_true (s := 164) rfl rfl ?_
      refine TO.rd rfl rfl (rd_b (b := false) (rd_neb Tryd.under4 rfl rfl) (by simp only [numR, timR, bothR]; (repeat' split) <;> first | omega | (simp; done) | (simp; omega))) ?_
      refine TO.rd rfl rfl (rd_pick_false (v := .bool _) rfl rfl) ?_
      refine TO.nil ?_
      refine TQ.then_normal ?_
      refine T.cond_false rfl ?_
      refine T.skip ?_
      refine TQ.then_normal ?_
      refine T.seq ?_
      refine T.region ?_
      refine TO.rd rfl rfl (rd_move (v := .int _ _) rfl) ?_
      refine TO.rd rfl rfl (rd_eql rfl rfl) ?_
      refine TO.rd rfl rfl (rd_move (v := .bool _) rfl) ?_
      refine TO.rd rfl rfl (rd_not rfl) ?_
      refine TO.rd rfl rfl (rd_b (b := true) (rd_eqb Tryd.under4 rfl rfl) (by simp only [numR, timR, bothR]; (repeat' split) <;> first | omega | (simp; done) | (simp; omega))) ?_
      refine TO.rd rfl rfl (rd_move (v := .bool _) rfl) ?_
      refine TO.guard_true (s := 175) rfl rfl ?_
      refine TO.rd rfl rfl (rd_move (v := .int _ _) rfl) ?_
      refine TO.guard_true (s := 175) rfl rfl ?_
      refine TO.rd rfl rfl (rd_eql rfl rfl) ?_
      refine TO.guard_true (s := 175) rfl rfl ?_
      refine TO.rd rfl rfl (rd_move (v := .bool _) rfl) ?_
      refine TO.guard_true (s := 175) rfl rfl ?_
      refine TO.rd rfl rfl (rd_not rfl) ?_
      refine TO.guard_true (s := 175) rfl rfl ?_
      refine TO.rd rfl rfl (rd_b (b := true) (rd_eqb Tryd.under4 rfl rfl) (by simp only [numR, timR, bothR]; (repeat' split) <;> first | omega | (simp; done) | (simp; omega))) ?_
      refine TO.rd rfl rfl (rd_pick_true (v := .bool _) rfl rfl) ?_
      refine TO.rd rfl rfl (rd_move (v := .bool _) rfl) ?_
      refine TO.guard_true (s := 182) rfl rfl ?_
      refine TO.rd rfl rfl (rd_move (v := .int _ _) rfl) ?_
      refine TO.guard_true (s := 182) rfl rfl ?_
      refine TO.rd rfl rfl (rd_eql rfl rfl) ?_
      refine TO.guard_true (s := 182) rfl rfl ?_
      refine TO.rd rfl rfl (rd_move (v := .bool _) rfl) ?_
      refine TO.guard_true (s := 182) rfl rfl ?_
      refine TO.rd rfl rfl (rd_not rfl) ?_
      refine TO.guard_true (s := 182) rfl rfl ?_
      refine TO.rd rfl rfl (rd_move (v := .bool _) rfl) ?_
      refine TO.guard_false (s := 187) (b' := false) rfl rfl nofun ?_
      refine TO.guard_false (s := 187) (b' := false) rfl rfl nofun ?_
      refine TO.guard_true (s := 182) rfl rfl ?_
      refine TO.rd rfl rfl (rd_pick_false (v := .bool _) rfl rfl) ?_
      refine TO.guard_true (s := 182) rfl rfl ?_
      refine TO.rd rfl rfl (rd_b (b := true) (rd_eqb Tryd.under4 rfl rfl) (by simp only [numR, timR, bothR]; (repeat' split) <;> first | omega | (simp; done) | (simp; omega))) ?_
      refine TO.rd rfl rfl (rd_pick_true (v := .bool _) rfl rfl) ?_
      refine TO.rd rfl rfl (rd_assign (v := .bool _) rfl) ?_
      refine TO.nil ?_
      refine TQ.then_normal ?_
      refine T.ret ?_
      refine TQ.value ?_ (res1 Tryd.results7 (Res.tmp (v := .bool _) rfl)) _ (.inl rfl)
      rfl
    try simp only [decide_eq_true_eq, decide_eq_false_iff_not, Bool.not_eq_true', Bool.not_eq_false', Bool.not_eq_eq_eq_not, Bool.not_true, Bool.not_false, beq_iff_eq, beq_eq_false_iff_ne, bne_iff_ne, bne_eq_false_iff_eq, ne_eq, Int.not_lt, Int.not_le, Decidable.not_not] at h14
    refine TO.guard_true (s := 104) rfl rfl ?_
    refine TO.rd rfl rfl (rd_move (v := .int _ _) rfl) ?_
    refine TO.guard_true (s := 104) rfl rfl ?_
    refine TO.rd rfl rfl (rd_fieldAddr Tryd.field31_5 rfl) ?_
    refine TO.guard_true (s := 104) rfl rfl ?_
    refine TO.rd rfl rfl (rd_fieldAddr Tryd.field29_1 rfl) ?_
    refine TO.guard_true (s := 104) rfl rfl ?_
    refine TO.rd rfl rfl (rd_load (v := .int _ _) Tryd.one3 rfl (Has.own 2 rfl) rfl) ?_
    refine TO.guard_true (s := 104) rfl rfl ?_
    refine TO.rd rfl rfl (rd_geq rfl rfl) ?_
    refine TO.rd rfl rfl (rd_pick_false (v := .bool _) rfl rfl) ?_
    refine TO.rd rfl rfl (rd_assign (v := .bool _) rfl) ?_
    refine TO.nil ?_
    refine TQ.then_normal ?_
    refine T.seq ?_
    refine T.region ?_
    refine TO.rd rfl rfl (rd_move (v := .slice _ _ _) rfl) ?_
    refine TO.rd rfl rfl (rd_load_agg (cs := #[.int _ _, .int _ _, .int _ _, .int _ _, .int _ _, .int _ _, .int _ _, .int _ _, .string _]) Tryd.agg31 rfl (Has.own 2 rfl) rfl rfl) ?_
    refine TO.rd rfl rfl (rd_move (v := .slice _ _ _) rfl) ?_
    refine TO.rd rfl rfl (rd_move (v := .int _ _) rfl) ?_
    refine TO.rd rfl rfl (rd_fieldAddr Tryd.field31_5 rfl) ?_
    refine TO.rd rfl rfl (rd_fieldAddr Tryd.field29_0 rfl) ?_
    refine TO.rd rfl rfl (rd_load (v := .int _ _) Tryd.one3 rfl (Has.own 2 rfl) rfl) ?_
    refine TO.fn Tryd.enters23 (cv_w (c_wish_Why _ _ _ (keysN 10) (by first | rfl | simp | omega) (madeW u) _ _ _ (madeL u) (by first | rfl | simp | omega) (nu) ((madeW u).slo) (by first | omega | assumption | (rw [keysN_len]; omega)) (by first | omega | assumption | (simp; done) | (simp only [List.length_drop, List.length_take, List.length_append]; omega))) (M.whyB nu)) rfl (ReadsC (Has.arg 0 rfl) (ReadsC (row_slc' (e := eStr) (xs := (keysN 10)) (fun _ => rfl) (by first | rfl | omega | simp) (rfl) (Has.own 1 rfl)) (ReadsC (row_slc' (e := proxyL) (xs := (madeL u)) (fun _ => rfl) (rfl) (rfl) (Has.own 3 rfl)) Reads0))) ?_
    refine TO.rd rfl rfl (rd_move (v := .tuple _) rfl) ?_
    refine TO.rd rfl rfl (rd_extract (v := .int _ _) (vs := _) rfl rfl) ?_
    refine TO.rd rfl rfl (rd_extract (v := .int _ _) (vs := _) rfl rfl) ?_
    refine TO.rd rfl rfl (rd_assign (v := .int _ _) rfl) ?_
    refine TO.rd rfl rfl (rd_assign (v := .int _ _) rfl) ?_
    refine TO.nil ?_
    refine TQ.then_normal ?_
    refine T.seq ?_
    refine T.region ?_
    refine TO.rd rfl rfl (rd_move (v := .slice _ _ _) rfl) ?_
    refine TO.rd rfl rfl (rd_load_agg (cs := #[.int _ _, .int _ _, .int _ _, .int _ _, .int _ _, .int _ _, .int _ _, .int _ _, .string _]) Tryd.agg31 rfl (Has.own 2 rfl) rfl rfl) ?_
    refine TO.rd rfl rfl (rd_move (v := .slice _ _ _) rfl) ?_
    refine TO.rd rfl rfl (rd_fieldAddr Tryd.field31_2 rfl) ?_
    refine TO.rd rfl rfl (rd_fieldAddr Tryd.field28_0 rfl) ?_
    refine TO.rd rfl rfl (rd_load (v := .int _ _) Tryd.one3 rfl (Has.own 2 rfl) rfl) ?_
    refine TO.rd rfl rfl (rd_move (v := .int _ _) rfl) ?_
    refine TO.fn Tryd.enters23 (cv_w (c_wish_Why _ _ _ (keysN 10) (by first | rfl | simp | omega) (madeW u) _ _ _ (madeL u) (by first | rfl | simp | omega) ((madeW u).rlo) (t) (by first | omega | assumption | (rw [keysN_len]; omega)) (by first | omega | assumption | (simp; done) | (simp only [List.length_drop, List.length_take, List.length_append]; omega))) (M.whyC t)) rfl (ReadsC (Has.arg 0 rfl) (ReadsC (row_slc' (e := eStr) (xs := (keysN 10)) (fun _ => rfl) (by first | rfl | omega | simp) (rfl) (Has.own 1 rfl)) (ReadsC (row_slc' (e := proxyL) (xs := (madeL u)) (fun _ => rfl) (rfl) (rfl) (Has.own 3 rfl)) Reads0))) ?_
    refine TO.rd rfl rfl (rd_move (v := .tuple _) rfl) ?_
    refine TO.rd rfl rfl (rd_extract (v := .int _ _) (vs := _) rfl rfl) ?_
    refine TO.rd rfl rfl (rd_extract (v := .int _ _) (vs := _) rfl rfl) ?_
    refine TO.rd rfl rfl (rd_assign (v := .int _ _) rfl) ?_
    refine TO.rd rfl rfl (rd_assign (v := .int _ _) rfl) ?_
    refine TO.nil ?_
    refine TQ.then_normal ?_
    refine T.seq ?_
    refine T.region ?_
    refine TO.rd rfl rfl (rd_move (v := .slice _ _ _) rfl) ?_
    refine TO.rd rfl rfl (rd_load_agg (cs := #[.int _ _, .int _ _, .int _ _, .int _ _, .int _ _, .int _ _, .int _ _, .int _ _, .string _]) Tryd.agg31 rfl (Has.own 2 rfl) rfl rfl) ?_
    refine TO.rd rfl rfl (rd_move (v := .slice _ _ _) rfl) ?_
    refine TO.rd rfl rfl (rd_move (v := .int _ _) rfl) ?_
    refine TO.rd rfl rfl (rd_move (v := .int _ _) rfl) ?_
    refine TO.fn Tryd.enters23 (cv_w (c_wish_Why _ _ _ (keysN 10) (by first | rfl | simp | omega) (madeW u) _ _ _ (madeL u) (by first | rfl | simp | omega) (nu) (t) (by first | omega | assumption | (rw [keysN_len]; omega)) (by first | omega | assumption | (simp; done) | (simp only [List.length_drop, List.length_take, List.length_append]; omega))) (M.whyD nu t)) rfl (ReadsC (Has.arg 0 rfl) (ReadsC (row_slc' (e := eStr) (xs := (keysN 10)) (fun _ => rfl) (by first | rfl | omega | simp) (rfl) (Has.own 1 rfl)) (ReadsC (row_slc' (e := proxyL) (xs := (madeL u)) (fun _ => rfl) (rfl) (rfl) (Has.own 3 rfl)) Reads0))) ?_
    refine TO.rd rfl rfl (rd_move (v := .tuple _) rfl) ?_
    refine TO.rd rfl rfl (rd_extract (v := .int _ _) (vs := _) rfl rfl) ?_
    refine TO.rd rfl rfl (rd_extract (v := .int _ _) (vs := _) rfl rfl) ?_
    refine TO.rd rfl rfl (rd_assign (v := .int _ _) rfl) ?_
    refine TO.rd rfl rfl (rd_assign (v := .int _ _) rfl) ?_
    refine TO.nil ?_
    refine TQ.then_normal ?_
    refine T.seq ?_
    refine T.seq ?_
    refine T.region ?_
    refine TO.rd rfl rfl (rd_move (v := .int _ _) rfl) ?_
    refine TO.rd rfl rfl (rd_b (b := false) (rd_neq rfl rfl) (by first | exact decide_eq_false (by omega) | (rw [bne_eq_false_iff_eq]; omega) | (simp; done) | (simp; omega))) ?_
    refine TO.rd rfl rfl (rd_move (v := .bool _) rfl) ?_
    refine TO.guard_true (s := 144) rfl rfl ?_
    refine TO.rd rfl rfl (rd_move (v := .int _ _) rfl) ?_
    refine TO.guard_true (s := 144) rfl rfl ?_
    refine TO.rd rfl rfl (rd_b (b := false) (rd_neq rfl rfl) (by first | exact decide_eq_false (by omega) | (rw [bne_eq_false_iff_eq]; omega) | (simp; done) | (simp; omega))) ?_
    refine TO.rd rfl rfl (rd_pick_false (v := .bool _) rfl rfl) ?_
    refine TO.rd rfl rfl (rd_move (v := .bool _) rfl) ?_
    refine TO.guard_true (s := 148) rfl rfl ?_
    refine TO.rd rfl rfl (rd_move (v := .int _ _) rfl) ?_
    refine TO.guard_true (s := 148) rfl rfl ?_
    refine TO.rd rfl rfl (rd_b (b := false) (rd_neq rfl rfl) (by first | exact decide_eq_false (by omega) | (rw [bne_eq_false_iff_eq]; omega) | (simp; done) | (simp; omega))) ?_
    refine TO.rd rfl rfl (rd_pick_false (v := .bool _) rfl rfl) ?_
    refine TO.rd rfl rfl (rd_move (v := .bool _) rfl) ?_
    refine TO.guard_true (s := 152) rfl rfl ?_
    refine TO.rd rfl rfl (rd_move (v := .int _ _) rfl) ?_
    refine TO.guard_true (s := 152) rfl rfl ?_
    refine TO.rd rfl rfl (rd_eql rfl rfl) ?_
    refine TO.guard_true (s := 152) rfl rfl ?_
    refine TO.rd rfl rfl (rd_move (v := .bool _) rfl) ?_
    refine TO.guard_true (s := 152) rfl rfl ?_
    refine TO.rd rfl rfl (rd_b (b := false) (rd_neb Tryd.under4 rfl rfl) (by simp only [numR, timR, bothR]; (repeat' split) <;> first | omega | (simp; done) | (simp; omega))) ?_
    refine TO.rd rfl rfl (rd_pick_false (v := .bool _) rfl rfl) ?_
    refine TO.rd rfl rfl (rd_move (v := .bool _) rfl) ?_
    refine TO.guard_true (s := 158) rfl rfl ?_
    refine TO.rd rfl rfl (rd_move (v := .int _ _) rfl) ?_
    refine TO.guard_true (s := 158) rfl rfl ?_
    refine TO.rd rfl rfl (rd_eql rfl rfl) ?_
    refine TO.guard_true (s := 158) rfl rfl ?_
    refine TO.rd rfl rfl (rd_move (v := .bool _) rfl) ?_
    refine TO.guard_true (s := 158) rfl rfl ?_
    refine TO.rd rfl rfl (rd_b (b := false) (rd_neb Tryd.under4 rfl rfl) (by simp only [numR, timR, bothR]; (repeat' split) <;> first | omega | (simp; done) | (simp; omega))) ?_
    refine TO.rd rfl rfl (rd_pick_false (v := .bool _) rfl rfl) ?_
    refine TO.rd rfl rfl (rd_move (v := .bool _) rfl) ?_
    refine TO.guard_true (s := 164) rfl rfl ?_
    refine TO.rd rfl rfl (rd_move (v := .int _ _) rfl) ?_
    refine TO.guard_true (s := 164) rfl rfl ?_
    refine TO.rd rfl rfl (rd_eql rfl rfl) ?_
    refine TO.guard_true (s := 164) rfl rfl ?_
    refine TO.rd rfl rfl (rd_move (v := .bool _) rfl) ?_
    refine TO.guard_true (s := 164) rfl rfl ?_
    refine TO.rd rfl rfl (rd_b (b := false) (rd_neb Tryd.under4 rfl rfl) (by simp only [numR, timR, bothR]; (repeat' split) <;> first | omega | (simp; done) | (simp; omega))) ?_
    refine TO.rd rfl rfl (rd_pick_false (v := .bool _) rfl rfl) ?_
    refine TO.nil ?_
    refine TQ.then_normal ?_
    refine T.cond_false rfl ?_
    refine T.skip ?_
    refine TQ.then_normal ?_
    refine T.seq ?_
    refine T.region ?_
    refine TO.rd rfl rfl (rd_move (v := .int _ _) rfl) ?_
    refine TO.rd rfl rfl (rd_eql rfl rfl) ?_
    refine TO.rd rfl rfl (rd_move (v := .bool _) rfl) ?_
    refine TO.rd rfl rfl (rd_not rfl) ?_
    refine TO.rd rfl rfl (rd_b (b := true) (rd_eqb Tryd.under4 rfl rfl) (by simp only [numR, timR, bothR]; (repeat' split) <;> first | omega | (simp; done) | (simp; omega))) ?_
    refine TO.rd rfl rfl (rd_move (v := .bool _) rfl) ?_
    refine TO.guard_true (s := 175) rfl rfl ?_
    refine TO.rd rfl rfl (rd_move (v := .int _ _) rfl) ?_
    refine TO.guard_true (s := 175) rfl rfl ?_
    refine TO.rd rfl rfl (rd_eql rfl rfl) ?_
    refine TO.guard_true (s := 175) rfl rfl ?_
    refine TO.rd rfl rfl (rd_move (v := .bool _) rfl) ?_
    refine TO.guard_true (s := 175) rfl rfl ?_
    refine TO.rd rfl rfl (rd_not rfl) ?_
    refine TO.guard_true (s := 175) rfl rfl ?_
    refine TO.rd rfl rfl (rd_b (b := true) (rd_eqb Tryd.under4 rfl rfl) (by simp only [numR, timR, bothR]; (repeat' split) <;> first | omega | (simp; done) | (simp; omega))) ?_
    refine TO.rd rfl rfl (rd_pick_true (v := .bool _) rfl rfl) ?_
    refine TO.rd rfl rfl (rd_move (v := .bool _) rfl) ?_
    refine TO.guard_true (s := 182) rfl rfl ?_
    refine TO.rd rfl rfl (rd_move (v := .int _ _) rfl) ?_
    refine TO.guard_true (s := 182) rfl rfl ?_
    refine TO.rd rfl rfl (rd_eql rfl rfl) ?_
    refine TO.guard_true (s := 182) rfl rfl ?_
    refine TO.rd rfl rfl (rd_move (v := .bool _) rfl) ?_
    refine TO.guard_true (s := 182) rfl rfl ?_
    refine TO.rd rfl rfl (rd_not rfl) ?_
    refine TO.guard_true (s := 182) rfl rfl ?_
    refine TO.rd rfl rfl (rd_move (v := .bool _) rfl) ?_
    refine TO.guard_false (s := 187) (b' := false) rfl rfl nofun ?_
    refine TO.guard_false (s := 187) (b' := false) rfl rfl nofun ?_
    refine TO.guard_true (s := 182) rfl rfl ?_
    refine TO.rd rfl rfl (rd_pick_false (v := .bool _) rfl rfl) ?_
    refine TO.guard_true (s := 182) rfl rfl ?_
    refine TO.rd rfl rfl (rd_b (b := true) (rd_eqb Tryd.under4 rfl rfl) (by simp only [numR, timR, bothR]; (repeat' split) <;> first | omega | (simp; done) | (simp; omega))) ?_
    refine TO.rd rfl rfl (rd_pick_true (v := .bool _) rfl rfl) ?_
    refine TO.rd rfl rfl (rd_assign (v := .bool _) rfl) ?_
    refine TO.nil ?_
    refine TQ.then_normal ?_
    refine T.ret ?_
    refine TQ.value ?_ (res1 Tryd.results7 (Res.tmp (v := .bool _) rfl)) _ (.inl rfl)
    rfl
  try simp only [decide_eq_true_eq, decide_eq_false_iff_not, Bool.not_eq_true', Bool.not_eq_false', Bool.not_eq_eq_eq_not, Bool.not_true, Bool.not_false, beq_iff_eq, beq_eq_false_iff_ne, bne_iff_ne, bne_eq_false_iff_eq, ne_eq, Int.not_lt, Int.not_le, Decidable.not_not] at h13
  refine TO.guard_true (s := 92) rfl rfl ?_
  refine TO.rd rfl rfl (rd_move (v := .int _ _) rfl) ?_
  refine TO.guard_true (s := 92) rfl rfl ?_
  refine TO.rd rfl rfl (rd_fieldAddr Tryd.field31_2 rfl) ?_
  refine TO.guard_true (s := 92) rfl rfl ?_
  refine TO.rd rfl rfl (rd_fieldAddr Tryd.field28_1 rfl) ?_
  refine TO.guard_true (s := 92) rfl rfl ?_
  refine TO.rd rfl rfl (rd_load (v := .int _ _) Tryd.one3 rfl (Has.own 2 rfl) rfl) ?_
  refine TO.guard_true (s := 92) rfl rfl ?_
  refine TO.rd rfl rfl (rd_geq rfl rfl) ?_
  refine TO.rd rfl rfl (rd_pick_false (v := .bool _) rfl rfl) ?_
  refine TO.rd rfl rfl (rd_assign (v := .bool _) rfl) ?_
  refine TO.nil ?_
  refine TQ.then_normal ?_
  refine T.seq ?_
  refine T.region ?_
  refine TO.rd rfl rfl (rd_move (v := .int _ _) rfl) ?_
  refine TO.rd rfl rfl (rd_fieldAddr Tryd.field31_5 rfl) ?_
  refine TO.rd rfl rfl (rd_fieldAddr Tryd.field29_0 rfl) ?_
  refine TO.rd rfl rfl (rd_load (v := .int _ _) Tryd.one3 rfl (Has.own 2 rfl) rfl) ?_
  refine TO.rd rfl rfl (rd_lss rfl rfl) ?_
  refine TO.rd rfl rfl (rd_move (v := .bool _) rfl) ?_
  refine TO.decide (s := 104) rfl (fun h15 => ?_) (fun h15 => ?_)
  · try simp only [decide_eq_true_eq, decide_eq_false_iff_not, Bool.not_eq_true', Bool.not_eq_false', Bool.not_eq_eq_eq_not, Bool.not_true, Bool.not_false, beq_iff_eq, beq_eq_false_iff_ne, bne_iff_ne, bne_eq_false_iff_eq, ne_eq, Int.not_lt, Int.not_le, Decidable.not_not] at h15
    refine TO.guard_false (s := 104) (b' := true) rfl rfl nofun ?_
    refine TO.guard_false (s := 104) (b' := true) rfl rfl nofun ?_
    refine TO.guard_false (s := 104) (b' := true) rfl rfl nofun ?_
    refine TO.guard_false (s := 104) (b' := true) rfl rfl nofun ?_
    refine TO.guard_false (s := 104) (b' := true) rfl rfl nofun ?_
    refine TO.rd rfl rfl (rd_pick_true (v := .bool _) rfl rfl) ?_
    refine TO.rd rfl rfl (rd_assign (v := .bool _) rfl) ?_
    refine TO.nil ?_
    refine TQ.then_normal ?_
    refine T.seq ?_
    refine T.region ?_
    refine TO.rd rfl rfl (rd_move (v := .slice _ _ _) rfl) ?_
    refine TO.rd rfl rfl (rd_load_agg (cs := #[.int _ _, .int _ _, .int _ _, .int _ _, .int _ _, .int _ _, .int _ _, .int _ _, .string _]) Tryd.agg31 rfl (Has.own 2 rfl) rfl rfl) ?_
    refine TO.rd rfl rfl (rd_move (v := .slice _ _ _) rfl) ?_
    refine TO.rd rfl rfl (rd_move (v := .int _ _) rfl) ?_
    refine TO.rd rfl rfl (rd_fieldAddr Tryd.field31_5 rfl) ?_
    refine TO.rd rfl rfl (rd_fieldAddr Tryd.field29_0 rfl) ?_
    refine TO.rd rfl rfl (rd_load (v := .int _ _) Tryd.one3 rfl (Has.own 2 rfl) rfl) ?_
    refine TO.fn Tryd.enters23 (cv_w (c_wish_Why _ _ _ (keysN 10) (by first | rfl | simp | omega) (madeW u) _ _ _ (madeL u) (by first | rfl | simp | omega) (nu) ((madeW u).slo) (by first | omega | assumption | (rw [keysN_len]; omega)) (by first | omega | assumption | (simp; done) | (simp only [List.length_drop, List.length_take, List.length_append]; omega))) (M.whyB nu)) rfl (ReadsC (Has.arg 0 rfl) (ReadsC (row_slc' (e := eStr) (xs := (keysN 10)) (fun _ => rfl) (by first | rfl | omega | simp) (rfl) (Has.own 1 rfl)) (ReadsC (row_slc' (e := proxyL) (xs := (madeL u)) (fun _ => rfl) (rfl) (rfl) (Has.own 3 rfl)) Reads0))) ?_
    refine TO.rd rfl rfl (rd_move (v := .tuple _) rfl) ?_
    refine TO.rd rfl rfl (rd_extract (v := .int _ _) (vs := _) rfl rfl) ?_
    refine TO.rd rfl rfl (rd_extract (v := .int _ _) (vs := _) rfl rfl) ?_
    refine TO.rd rfl rfl (rd_assign (v := .int _ _) rfl) ?_
    refine TO.rd rfl rfl (rd_assign (v := .int _ _) rfl) ?_
    refine TO.nil ?_
    refine TQ.then_normal ?_
    refine T.seq ?_
    refine T.region ?_
    refine TO.rd rfl rfl (rd_move (v := .slice _ _ _) rfl) ?_
    refine TO.rd rfl rfl (rd_load_agg (cs := #[.int _ _, .int _ _, .int _ _, .int _ _, .int _ _, .int _ _, .int _ _, .int _ _, .string _]) Tryd.agg31 rfl (Has.own 2 rfl) rfl rfl) ?_
    refine TO.rd rfl rfl (rd_move (v := .slice _ _ _) rfl) ?_
    refine TO.rd rfl rfl (rd_fieldAddr Tryd.field31_2 rfl) ?_
    refine TO.rd rfl rfl (rd_fieldAddr Tryd.field28_0 rfl) ?_
    refine TO.rd rfl rfl (rd_load (v := .int _ _) Tryd.one3 rfl (Has.own 2 rfl) rfl) ?_
    refine TO.rd rfl rfl (rd_move (v := .int _ _) rfl) ?_
    refine TO.fn Tryd.enters23 (cv_w (c_wish_Why _ _ _ (keysN 10) (by first | rfl | simp | omega) (madeW u) _ _ _ (madeL u) (by first | rfl | simp | omega) ((madeW u).rlo) (t) (by first | omega | assumption | (rw [keysN_len]; omega)) (by first | omega | assumption | (simp; done) | (simp only [List.length_drop, List.length_take, List.length_append]; omega))) (M.whyC t)) rfl (ReadsC (Has.arg 0 rfl) (ReadsC (row_slc' (e := eStr) (xs := (keysN 10)) (fun _ => rfl) (by first | rfl | omega | simp) (rfl) (Has.own 1 rfl)) (ReadsC (row_slc' (e := proxyL) (xs := (madeL u)) (fun _ => rfl) (rfl) (rfl) (Has.own 3 rfl)) Reads0))) ?_
    refine TO.rd rfl rfl (rd_move (v := .tuple _) rfl) ?_
    refine TO.rd rfl rfl (rd_extract (v := .int _ _) (vs := _) rfl rfl) ?_
    refine TO.rd rfl rfl (rd_extract (v := .int _ _) (vs := _) rfl rfl) ?_
    refine TO.rd rfl rfl (rd_assign (v := .int _ _) rfl) ?_
    refine TO.rd rfl rfl (rd_assign (v := .int _ _) rfl) ?_
    refine TO.nil ?_
    refine TQ.then_normal ?_
    refine T.seq ?_
    refine T.region ?_
    refine TO.rd rfl rfl (rd_move (v := .slice _ _ _) rfl) ?_
    refine TO.rd rfl rfl (rd_load_agg (cs := #[.int _ _, .int _ _, .int _ _, .int _ _, .int _ _, .int _ _, .int _ _, .int _ _, .string _]) Tryd.agg31 rfl (Has.own 2 rfl) rfl rfl) ?_
    refine TO.rd rfl rfl (rd_move (v := .slice _ _ _) rfl) ?_
    refine TO.rd rfl rfl (rd_move (v := .int _ _) rfl) ?_
    refine TO.rd rfl rfl (rd_move (v := .int _ _) rfl) ?_
    refine TO.fn Tryd.enters23 (cv_w (c_wish_Why _ _ _ (keysN 10) (by first | rfl | simp | omega) (madeW u) _ _ _ (madeL u) (by first | rfl | simp | omega) (nu) (t) (by first | omega | assumption | (rw [keysN_len]; omega)) (by first | omega | assumption | (simp; done) | (simp only [List.length_drop, List.length_take, List.length_append]; omega))) (M.whyD nu t)) rfl (ReadsC (Has.arg 0 rfl) (ReadsC (row_slc' (e := eStr) (xs := (keysN 10)) (fun _ => rfl) (by first | rfl | omega | simp) (rfl) (Has.own 1 rfl)) (ReadsC (row_slc' (e := proxyL) (xs := (madeL u)) (fun _ => rfl) (rfl) (rfl) (Has.own 3 rfl)) Reads0))) ?_
    refine TO.rd rfl rfl (rd_move (v := .tuple _) rfl) ?_
    refine TO.rd rfl rfl (rd_extract (v := .int _ _) (vs := _) rfl rfl) ?_
    refine TO.rd rfl rfl (rd_extract (v := .int _ _) (vs := _) rfl rfl) ?_
    refine TO.rd rfl rfl (rd_assign (v := .int _ _) rfl) ?_
    refine TO.rd rfl rfl (rd_assign (v := .int _ _) rfl) ?_
    refine TO.nil ?_
    refine TQ.then_normal ?_
    refine T.seq ?_
    refine T.seq ?_
    refine T.region ?_
    refine TO.rd rfl rfl (rd_move (v := .int _ _) rfl) ?_
    refine TO.rd rfl rfl (rd_b (b := false) (rd_neq rfl rfl) (by first | exact decide_eq_false (by omega) | (rw [bne_eq_false_iff_eq]; omega) | (simp; done) | (simp; omega))) ?_
    refine TO.rd rfl rfl (rd_move (v := .bool _) rfl) ?_
    refine TO.guard_true (s := 144) rfl rfl ?_
    refine TO.rd rfl rfl (rd_move (v := .int _ _) rfl) ?_
    refine TO.guard_true (s := 144) rfl rfl ?_
    refine TO.rd rfl rfl (rd_b (b := false) (rd_neq rfl rfl) (by first | exact decide_eq_false (by omega) | (rw [bne_eq_false_iff_eq]; omega) | (simp; done) | (simp; omega))) ?_
    refine TO.rd rfl rfl (rd_pick_false (v := .bool _) rfl rfl) ?_
    refine TO.rd rfl rfl (rd_move (v := .bool _) rfl) ?_
    refine TO.guard_true (s := 148) rfl rfl ?_
    refine TO.rd rfl rfl (rd_move (v := .int _ _) rfl) ?_
    refine TO.guard_true (s := 148) rfl rfl ?_
    refine TO.rd rfl rfl (rd_b (b := false) (rd_neq rfl rfl) (by first | exact decide_eq_false (by omega) | (rw [bne_eq_false_iff_eq]; omega) | (simp; done) | (simp; omega))) ?_
    refine TO.rd rfl rfl (rd_pick_false (v := .bool _) rfl rfl) ?_
    refine TO.rd rfl rfl (rd_move (v := .bool _) rfl) ?_
    refine TO.guard_true (s := 152) rfl rfl ?_
    refine TO.rd rfl rfl (rd_move (v := .int _ _) rfl) ?_
    refine TO.guard_true (s := 152) rfl rfl ?_
    refine TO.rd rfl rfl (rd_eql rfl rfl) ?_
    refine TO.guard_true (s := 152) rfl rfl ?_
    refine TO.rd rfl rfl (rd_move (v := .bool _) rfl) ?_
    refine TO.guard_true (s := 152) rfl rfl ?_
    refine TO.rd rfl rfl (rd_b (b := false) (rd_neb Tryd.under4 rfl rfl) (by simp only [numR, timR, bothR]; (repeat' split) <;> first | omega | (simp; done) | (simp; omega))) ?_
    refine TO.rd rfl rfl (rd_pick_false (v := .bool _) rfl rfl) ?_
    refine TO.rd rfl rfl (rd_move (v := .bool _) rfl) ?_
    refine TO.guard_true (s := 158) rfl rfl ?_
    refine TO.rd rfl rfl (rd_move (v := .int _ _) rfl) ?_
    refine TO.guard_true (s := 158) rfl rfl ?_
    refine TO.rd rfl rfl (rd_eql rfl rfl) ?_
    refine TO.guard_true (s := 158) rfl rfl ?_
    refine TO.rd rfl rfl (rd_move (v := .bool _) rfl) ?_
    refine TO.guard_true (s := 158) rfl rfl ?_
    refine TO.rd rfl rfl (rd_b (b := false) (rd_neb Tryd.under4 rfl rfl) (by simp only [numR, timR, bothR]; (repeat' split) <;> first | omega | (simp; done) | (simp; omega))) ?_
    refine TO.rd rfl rfl (rd_pick_false (v := .bool _) rfl rfl) ?_
    refine TO.rd rfl rfl (rd_move (v := .bool _) rfl) ?_
    refine TO.guard_true (s := 164) rfl rfl ?_
    refine TO.rd rfl rfl (rd_move (v := .int _ _) rfl) ?_
    refine TO.guard_true (s := 164) rfl rfl ?_
    refine TO.rd rfl rfl (rd_eql rfl rfl) ?_
    refine TO.guard_true (s := 164) rfl rfl ?_
    refine TO.rd rfl rfl (rd_move (v := .bool _) rfl) ?_
    refine TO.guard_true (s := 164) rfl rfl ?_
    refine TO.rd rfl rfl (rd_b (b := false) (rd_neb Tryd.under4 rfl rfl) (by simp only [numR, timR, bothR]; (repeat' split) <;> first | omega | (simp; done) | (simp; omega))) ?_
    refine TO.rd rfl rfl (rd_pick_false (v := .bool _) rfl rfl) ?_
    refine TO.nil ?_
    refine TQ.then_normal ?_
    refine T.cond_false rfl ?_
    refine T.skip ?_
    refine TQ.then_normal ?_
    refine T.seq ?_
    refine T.region ?_
    refine TO.rd rfl rfl (rd_move (v := .int _ _) rfl) ?_
    refine TO.rd rfl rfl (rd_eql rfl rfl) ?_
    refine TO.rd rfl rfl (rd_move (v := .bool _) rfl) ?_
    refine TO.rd rfl rfl (rd_not rfl) ?_
    refine TO.rd rfl rfl (rd_b (b := true) (rd_eqb Tryd.under4 rfl rfl) (by simp only [numR, timR, bothR]; (repeat' split) <;> first | omega | (simp; done) | (simp; omega))) ?_
    refine TO.rd rfl rfl (rd_move (v := .bool _) rfl) ?_
    refine TO.guard_true (s := 175) rfl rfl ?_
    refine TO.rd rfl rfl (rd_move (v := .int _ _) rfl) ?_
    refine TO.guard_true (s := 175) rfl rfl ?_
    refine TO.rd rfl rfl (rd_eql rfl rfl) ?_
    refine TO.guard_true (s := 175) rfl rfl ?_
    refine TO.rd rfl rfl (rd_move (v := .bool _) rfl) ?_
    refine TO.guard_true (s := 175) rfl rfl ?_
    refine TO.rd rfl rfl (rd_not rfl) ?_
    refine TO.guard_true (s := 175) rfl rfl ?_
    refine TO.rd rfl rfl (rd_b (b := true) (rd_eqb Tryd.under4 rfl rfl) (by simp only [numR, timR, bothR]; (repeat' split) <;> first | omega | (simp; done) | (simp; omega))) ?_
    refine TO.rd rfl rfl (rd_pick_true (v := .bool _) rfl rfl) ?_
    refine TO.rd rfl rfl (rd_move (v := .bool _) rfl) ?_
    refine TO.guard_true (s := 182) rfl rfl ?_
    refine TO.rd rfl rfl (rd_move (v := .int _ _) rfl) ?_
    refine TO.guard_true (s := 182) rfl rfl ?_
    refine TO.rd rfl rfl (rd_eql rfl rfl) ?_
    refine TO.guard_true (s := 182) rfl rfl ?_
    refine TO.rd rfl rfl (rd_move (v := .bool _) rfl) ?_
    refine TO.guard_true (s := 182) rfl rfl ?_
    refine TO.rd rfl rfl (rd_not rfl) ?_
    refine TO.guard_true (s := 182) rfl rfl ?_
    refine TO.rd rfl rfl (rd_move (v := .bool _) rfl) ?_
    refine TO.decide_ft (s := 187) rfl (fun h16 => ?_) (fun h16 => ?_)
    · try simp only [decide_eq_true_eq, decide_eq_false_iff_not, Bool.not_eq_true', Bool.not_eq_false', Bool.not_eq_eq_eq_not, Bool.not_true, Bool.not_false, beq_iff_eq, beq_eq_false_iff_ne, bne_iff_ne, bne_eq_false_iff_eq, ne_eq, Int.not_lt, Int.not_le, Decidable.not_not] at h16
      refine TO.guard_false (s := 187) (b' := false) rfl rfl nofun ?_
      refine TO.guard_false (s := 187) (b' := false) rfl rfl nofun ?_
      refine TO.guard_true (s := 182) rfl rfl ?_
      refine TO.rd rfl rfl (rd_pick_false (v := .bool _) rfl rfl) ?_
      refine TO.guard_true (s := 182) rfl rfl ?_
      refine TO.rd rfl rfl (rd_b (b := true) (rd_eqb Tryd.under4 rfl rfl) (by simp only [numR, timR, bothR]; (repeat' split) <;> first | omega | (simp; done) | (simp; omega))) ?_
      refine TO.rd rfl rfl (rd_pick_true (v := .bool _) rfl rfl) ?_
      refine TO.rd rfl rfl (rd_assign (v := .bool _) rfl) ?_
      refine TO.nil ?_
      refine TQ.then_normal ?_
      refine T.ret ?_
      refine TQ.value ?_ (res1 Tryd.results7 (Res.tmp (v := .bool _) rfl)) _ (.inl rfl)
      rfl
    try simp only [decide_eq_true_eq, decide_eq_false_iff_not, Bool.not_eq_true', Bool.not_eq_false', Bool.not_eq_eq_eq_not, Bool.not_true, Bool.not_false, beq_iff_eq, beq_eq_false_iff_ne, bne_iff_ne, bne_eq_false_iff_eq, ne_eq, Int.not_lt, Int.not_le, Decidable.not_not] at h16
    refine TO.guard_true (s := 187) rfl rfl ?_
    refine TO.rd rfl rfl (rd_move (v := .bool _) rfl) ?_
    refine TO.guard_true (s := 187) rfl rfl ?_
    refine TO.rd rfl rfl (rd_not rfl) ?_
    refine TO.guard_true (s := 182) rfl rfl ?_
    refine TO.rd rfl rfl (rd_pick_true (v := .bool _) rfl rfl) ?_
    refine TO.guard_true (s := 182) rfl rfl ?_
    refine TO.rd rfl rfl (rd_b (b := true) (rd_eqb Tryd.under4 rfl rfl) (by simp only [numR, timR, bothR]; (repeat' split) <;> first | omega | (simp; done) | (simp; omega))) ?_
    refine TO.rd rfl rfl (rd_pick_true (v := .bool _) rfl rfl) ?_
    refine TO.rd rfl rfl (rd_assign (v := .bool _) rfl) ?_
    refine TO.nil ?_
    refine TQ.then_normal ?_
    refine T.ret ?_
    refine TQ.value ?_ (res1 Tryd.results7 (Res.tmp (v := .bool _) rfl)) _ (.inl rfl)
    rfl
  try simp only [decide_eq_true_eq, decide_eq_false_iff_not, Bool.not_eq_true', Bool.not_eq_false', Bool.not_eq_eq_eq_not, Bool.not_true, Bool.not_false, beq_iff_eq, beq_eq_false_iff_ne, bne_iff_ne, bne_eq_false_iff_eq, ne_eq, Int.not_lt, Int.not_le, Decidable.not_not] at h15
  refine TO.guard_true (s := 104) rfl rfl ?_
  refine TO.rd rfl rfl (rd_move (v := .int _ _) rfl) ?_
  refine TO.guard_true (s := 104) rfl rfl ?_
  refine TO.rd rfl rfl (rd_fieldAddr Tryd.field31_5 rfl) ?_
  refine TO.guard_true (s := 104) rfl rfl ?_
  refine TO.rd rfl rfl (rd_fieldAddr Tryd.field29_1 rfl) ?_
  refine TO.guard_true (s := 104) rfl rfl ?_
  refine TO.rd rfl rfl (rd_load (v := .int _ _) Tryd.one3 rfl (Has.own 2 rfl) rfl) ?_
  refine TO.guard_true (s := 104) rfl rfl ?_
  refine TO.rd rfl rfl (rd_geq rfl rfl) ?_
  refine TO.rd rfl rfl (rd_pick_false (v := .bool _) rfl rfl) ?_
  refine TO.rd rfl rfl (rd_assign (v := .bool _) rfl) ?_
  refine TO.nil ?_
  refine TQ.then_normal ?_
  refine T.seq ?_
  refine T.region ?_
  refine TO.rd rfl rfl (rd_move (v := .slice _ _ _) rfl) ?_
  refine TO.rd rfl rfl (rd_load_agg (cs := #[.int _ _, .int _ _, .int _ _, .int _ _, .int _ _, .int _ _, .int _ _, .int _ _, .string _]) Tryd.agg31 rfl (Has.own 2 rfl) rfl rfl) ?_
  refine TO.rd rfl rfl (rd_move (v := .slice _ _ _) rfl) ?_
  refine TO.rd rfl rfl (rd_move (v := .int _ _) rfl) ?_
  refine TO.rd rfl rfl (rd_fieldAddr Tryd.field31_5 rfl) ?_
  refine TO.rd rfl rfl (rd_fieldAddr Tryd.field29_0 rfl) ?_
  refine TO.rd rfl rfl (rd_load (v := .int _ _) Tryd.one3 rfl (Has.own 2 rfl) rfl) ?_
  refine TO.fn Tryd.enters23 (cv_w (c_wish_Why _ _ _ (keysN 10) (by first | rfl | simp | omega) (madeW u) _ _ _ (madeL u) (by first | rfl | simp | omega) (nu) ((madeW u).slo) (by first | omega | assumption | (rw [keysN_len]; omega)) (by first | omega | assumption | (simp; done) | (simp only [List.length_drop, List.length_take, List.length_append]; omega))) (M.whyB nu)) rfl (ReadsC (Has.arg 0 rfl) (ReadsC (row_slc' (e := eStr) (xs := (keysN 10)) (fun _ => rfl) (by first | rfl | omega | simp) (rfl) (Has.own 1 rfl)) (ReadsC (row_slc' (e := proxyL) (xs := (madeL u)) (fun _ => rfl) (rfl) (rfl) (Has.own 3 rfl)) Reads0))) ?_
  refine TO.rd rfl rfl (rd_move (v := .tuple _) rfl) ?_
  refine TO.rd rfl rfl (rd_extract (v := .int _ _) (vs := _) rfl rfl) ?_
  refine TO.rd rfl rfl (rd_extract (v := .int _ _) (vs := _) rfl rfl) ?_
  refine TO.rd rfl rfl (rd_assign (v := .int _ _) rfl) ?_
  refine TO.rd rfl rfl (rd_assign (v := .int _ _) rfl) ?_
  refine TO.nil ?_
  refine TQ.then_normal ?_
  refine T.seq ?_
  refine T.region ?_
  refine TO.rd rfl rfl (rd_move (v := .slice _ _ _) rfl) ?_
  refine TO.rd rfl rfl (rd_load_agg (cs := #[.int _ _, .int _ _, .int _ _, .int _ _, .int _ _, .int _ _, .int _ _, .int _ _, .string _]) Tryd.agg31 rfl (Has.own 2 rfl) rfl rfl) ?_
  refine TO.rd rfl rfl (rd_move (v := .slice _ _ _) rfl) ?_
  refine TO.rd rfl rfl (rd_fieldAddr Tryd.field31_2 rfl) ?_
  refine TO.rd rfl rfl (rd_fieldAddr Tryd.field28_0 rfl) ?_
  refine TO.rd rfl rfl (rd_load (v := .int _ _) Tryd.one3 rfl (Has.own 2 rfl) rfl) ?_
  refine TO.rd rfl rfl (rd_move (v := .int _ _) rfl) ?_
  refine TO.fn Tryd.enters23 (cv_w (c_wish_Why _ _ _ (keysN 10) (by first | rfl | simp | omega) (madeW u) _ _ _ (madeL u) (by first | rfl | simp | omega) ((madeW u).rlo) (t) (by first | omega | assumption | (rw [keysN_len]; omega)) (by first | omega | assumption | (simp; done) | (simp only [List.length_drop, List.length_take, List.length_append]; omega))) (M.whyC t)) rfl (ReadsC (Has.arg 0 rfl) (ReadsC (row_slc' (e := eStr) (xs := (keysN 10)) (fun _ => rfl) (by first | rfl | omega | simp) (rfl) (Has.own 1 rfl)) (ReadsC (row_slc' (e := proxyL) (xs := (madeL u)) (fun _ => rfl) (rfl) (rfl) (Has.own 3 rfl)) Reads0))) ?_
  refine TO.rd rfl rfl (rd_move (v := .tuple _) rfl) ?_
  refine TO.rd rfl rfl (rd_extract (v := .int _ _) (vs := _) rfl rfl) ?_
  refine TO.rd rfl rfl (rd_extract (v := .int _ _) (vs := _) rfl rfl) ?_
  refine TO.rd rfl rfl (rd_assign (v := .int _ _) rfl) ?_
  refine TO.rd rfl rfl (rd_assign (v := .int _ _) rfl) ?_
  refine TO.nil ?_
  refine TQ.then_normal ?_
  refine T.seq ?_
  refine T.region ?_
  refine TO.rd rfl rfl (rd_move (v := .slice _ _ _) rfl) ?_
  refine TO.rd rfl rfl (rd_load_agg (cs := #[.int _ _, .int _ _, .int _ _, .int _ _, .int _ _, .int _ _, .int _ _, .int _ _, .string _]) Tryd.agg31 rfl (Has.own 2 rfl) rfl rfl) ?_
  refine TO.rd rfl rfl (rd_move (v := .slice _ _ _) rfl) ?_
  refine TO.rd rfl rfl (rd_move (v := .int _ _) rfl) ?_
  refine TO.rd rfl rfl (rd_move (v := .int _ _) rfl) ?_
  refine TO.fn Tryd.enters23 (cv_w (c_wish_Why _ _ _ (keysN 10) (by first | rfl | simp | omega) (madeW u) _ _ _ (madeL u) (by first | rfl | simp | omega) (nu) (t) (by first | omega | assumption | (rw [keysN_len]; omega)) (by first | omega | assumption | (simp; done) | (simp only [List.length_drop, List.length_take, List.length_append]; omega))) (M.whyD nu t)) rfl (ReadsC (Has.arg 0 rfl) (ReadsC (row_slc' (e := eStr) (xs := (keysN 10)) (fun _ => rfl) (by first | rfl | omega | simp) (rfl) (Has.own 1 rfl)) (ReadsC (row_slc' (e := proxyL) (xs := (madeL u)) (fun _ => rfl) (rfl) (rfl) (Has.own 3 rfl)) Reads0))) ?_
  refine TO.rd rfl rfl (rd_move (v := .tuple _) rfl) ?_
  refine TO.rd rfl rfl (rd_extract (v := .int _ _) (vs := _) rfl rfl) ?_
  refine TO.rd rfl rfl (rd_extract (v := .int _ _) (vs := _) rfl rfl) ?_
  refine TO.rd rfl rfl (rd_assign (v := .int _ _) rfl) ?_
  refine TO.rd rfl rfl (rd_assign (v := .int _ _) rfl) ?_
  refine TO.nil ?_
  refine TQ.then_normal ?_
  refine T.seq ?_
  refine T.seq ?_
  refine T.region ?_
  refine TO.rd rfl rfl (rd_move (v := .int _ _) rfl) ?_
  refine TO.rd rfl rfl (rd_b (b := false) (rd_neq rfl rfl) (by first | exact decide_eq_false (by omega) | (rw [bne_eq_false_iff_eq]; omega) | (simp; done) | (simp; omega))) ?_
  refine TO.rd rfl rfl (rd_move (v := .bool _) rfl) ?_
  refine TO.guard_true (s := 144) rfl rfl ?_
  refine TO.rd rfl rfl (rd_move (v := .int _ _) rfl) ?_
  refine TO.guard_true (s := 144) rfl rfl ?_
  refine TO.rd rfl rfl (rd_b (b := false) (rd_neq rfl rfl) (by first | exact decide_eq_false (by omega) | (rw [bne_eq_false_iff_eq]; omega) | (simp; done) | (simp; omega))) ?_
  refine TO.rd rfl rfl (rd_pick_false (v := .bool _) rfl rfl) ?_
  refine TO.rd rfl rfl (rd_move (v := .bool _) rfl) ?_
  refine TO.guard_true (s := 148) rfl rfl ?_
  refine TO.rd rfl rfl (rd_move (v := .int _ _) rfl) ?_
  refine TO.guard_true (s := 148) rfl rfl ?_
  refine TO.rd rfl rfl (rd_b (b := false) (rd_neq rfl rfl) (by first | exact decide_eq_false (by omega) | (rw [bne_eq_false_iff_eq]; omega) | (simp; done) | (simp; omega))) ?_
  refine TO.rd rfl rfl (rd_pick_false (v := .bool _) rfl rfl) ?_
  refine TO.rd rfl rfl (rd_move (v := .bool _) rfl) ?_
  refine TO.guard_true (s := 152) rfl rfl ?_
  refine TO.rd rfl rfl (rd_move (v := .int _ _) rfl) ?_
  refine TO.guard_true (s := 152) rfl rfl ?_
  refine TO.rd rfl rfl (rd_eql rfl rfl) ?_
  refine TO.guard_true (s := 152) rfl rfl ?_
  refine TO.rd rfl rfl (rd_move (v := .bool _) rfl) ?_
  refine TO.guard_true (s := 152) rfl rfl ?_
  refine TO.rd rfl rfl (rd_b (b := false) (rd_neb Tryd.under4 rfl rfl) (by simp only [numR, timR, bothR]; (repeat' split) <;> first | omega | (simp; done) | (simp; omega))) ?_
  refine TO.rd rfl rfl (rd_pick_false (v := .bool _) rfl rfl) ?_
  refine TO.rd rfl rfl (rd_move (v := .bool _) rfl) ?_
  refine TO.guard_true (s := 158) rfl rfl ?_
  refine TO.rd rfl rfl (rd_move (v := .int _ _) rfl) ?_
  refine TO.guard_true (s := 158) rfl rfl ?_
  refine TO.rd rfl rfl (rd_eql rfl rfl) ?_
  refine TO.guard_true (s := 158) rfl rfl ?_
  refine TO.rd rfl rfl (rd_move (v := .bool _) rfl) ?_
  refine TO.guard_true (s := 158) rfl rfl ?_
  refine TO.rd rfl rfl (rd_b (b := false) (rd_neb Tryd.under4 rfl rfl) (by simp only [numR, timR, bothR]; (repeat' split) <;> first | omega | (simp; done) | (simp; omega))) ?_
  refine TO.rd rfl rfl (rd_pick_false (v := .bool _) rfl rfl) ?_
  refine TO.rd rfl rfl (rd_move (v := .bool _) rfl) ?_
  refine TO.guard_true (s := 164) rfl rfl ?_
  refine TO.rd rfl rfl (rd_move (v := .int _ _) rfl) ?_
  refine TO.guard_true (s := 164) rfl rfl ?_
  refine TO.rd rfl rfl (rd_eql rfl rfl) ?_
  refine TO.guard_true (s := 164) rfl rfl ?_
  refine TO.rd rfl rfl (rd_move (v := .bool _) rfl) ?_
  refine TO.guard_true (s := 164) rfl rfl ?_
  refine TO.rd rfl rfl (rd_b (b := false) (rd_neb Tryd.under4 rfl rfl) (by simp only [numR, timR, bothR]; (repeat' split) <;> first | omega | (simp; done) | (simp; omega))) ?_
  refine TO.rd rfl rfl (rd_pick_false (v := .bool _) rfl rfl) ?_
  refine TO.nil ?_
  refine TQ.then_normal ?_
  refine T.cond_false rfl ?_
  refine T.skip ?_
  refine TQ.then_normal ?_
  refine T.seq ?_
  refine T.region ?_
  refine TO.rd rfl rfl (rd_move (v := .int _ _) rfl) ?_
  refine TO.rd rfl rfl (rd_eql rfl rfl) ?_
  refine TO.rd rfl rfl (rd_move (v := .bool _) rfl) ?_
  refine TO.rd rfl rfl (rd_not rfl) ?_
  refine TO.rd rfl rfl (rd_b (b := true) (rd_eqb Tryd.under4 rfl rfl) (by simp only [numR, timR, bothR]; (repeat' split) <;> first | omega | (simp; done) | (simp; omega))) ?_
  refine TO.rd rfl rfl (rd_move (v := .bool _) rfl) ?_
  refine TO.guard_true (s := 175) rfl rfl ?_
  refine TO.rd rfl rfl (rd_move (v := .int _ _) rfl) ?_
  refine TO.guard_true (s := 175) rfl rfl ?_
  refine TO.rd rfl rfl (rd_eql rfl rfl) ?_
  refine TO.guard_true (s := 175) rfl rfl ?_
  refine TO.rd rfl rfl (rd_move (v := .bool _) rfl) ?_
  refine TO.guard_true (s := 175) rfl rfl ?_
  refine TO.rd rfl rfl (rd_not rfl) ?_
  refine TO.guard_true (s := 175) rfl rfl ?_
  refine TO.rd rfl rfl (rd_b (b := true) (rd_eqb Tryd.under4 rfl rfl) (by simp only [numR, timR, bothR]; (repeat' split) <;> first | omega | (simp; done) | (simp; omega))) ?_
  refine TO.rd rfl rfl (rd_pick_true (v := .bool _) rfl rfl) ?_
  refine TO.rd rfl rfl (rd_move (v := .bool _) rfl) ?_
  refine TO.guard_true (s := 182) rfl rfl ?_
  refine TO.rd rfl rfl (rd_move (v := .int _ _) rfl) ?_
  refine TO.guard_true (s := 182) rfl rfl ?_
  refine TO.rd rfl rfl (rd_eql rfl rfl) ?_
  refine TO.guard_true (s := 182) rfl rfl ?_
  refine TO.rd rfl rfl (rd_move (v := .bool _) rfl) ?_
  refine TO.guard_true (s := 182) rfl rfl ?_
  refine TO.rd rfl rfl (rd_not rfl) ?_
  refine TO.guard_true (s := 182) rfl rfl ?_
  refine TO.rd rfl rfl (rd_move (v := .bool _) rfl) ?_
  refine TO.decide_ft (s := 187) rfl (fun h17 => ?_) (fun h17 => ?_)
  · try simp only [decide_eq_true_eq, decide_eq_false_iff_not, Bool.not_eq_true', Bool.not_eq_false', Bool.not_eq_eq_eq_not, Bool.not_true, Bool.not_false, beq_iff_eq, beq_eq_false_iff_ne, bne_iff_ne, bne_eq_false_iff_eq, ne_eq, Int.not_lt, Int.not_le, Decidable.not_not] at h17
    refine TO.guard_false (s := 187) (b' := false) rfl rfl nofun ?_
    refine TO.guard_false (s := 187) (b' := false) rfl rfl nofun ?_
    refine TO.guard_true (s := 182) rfl rfl ?_
    refine TO.rd rfl rfl (rd_pick_false (v := .bool _) rfl rfl) ?_
    refine TO.guard_true (s := 182) rfl rfl ?_
    refine TO.rd rfl rfl (rd_b (b := true) (rd_eqb Tryd.under4 rfl rfl) (by simp only [numR, timR, bothR]; (repeat' split) <;> first | omega | (simp; done) | (simp; omega))) ?_
    refine TO.rd rfl rfl (rd_pick_true (v := .bool _) rfl rfl) ?_
    refine TO.rd rfl rfl (rd_assign (v := .bool _) rfl) ?_
    refine TO.nil ?_
    refine TQ.then_normal ?_
    refine T.ret ?_
    refine TQ.value ?_ (res1 Tryd.results7 (Res.tmp (v := .bool _) rfl)) _ (.inl rfl)
    rfl
  try simp only [decide_eq_true_eq, decide_eq_false_iff_not, Bool.not_eq_true', Bool.not_eq_false', Bool.not_eq_eq_eq_not, Bool.not_true, Bool.not_false, beq_iff_eq, beq_eq_false_iff_ne, bne_iff_ne, bne_eq_false_iff_eq, ne_eq, Int.not_lt, Int.not_le, Decidable.not_not] at h17
  refine TO.guard_true (s := 187) rfl rfl ?_
  refine TO.rd rfl rfl (rd_move (v := .bool _) rfl) ?_
  refine TO.guard_true (s := 187) rfl rfl ?_
  refine TO.rd rfl rfl (rd_not rfl) ?_
  refine TO.guard_true (s := 182) rfl rfl ?_
  refine TO.rd rfl rfl (rd_pick_true (v := .bool _) rfl rfl) ?_
  refine TO.guard_true (s := 182) rfl rfl ?_
  refine TO.rd rfl rfl (rd_b (b := true) (rd_eqb Tryd.under4 rfl rfl) (by simp only [numR, timR, bothR]; (repeat' split) <;> first | omega | (simp; done) | (simp; omega))) ?_
  refine TO.rd rfl rfl (rd_pick_true (v := .bool _) rfl rfl) ?_
  refine TO.rd rfl rfl (rd_assign (v := .bool _) rfl) ?_
  refine TO.nil ?_
  refine TQ.then_normal ?_
  refine T.ret ?_
  refine TQ.value ?_ (res1 Tryd.results7 (Res.tmp (v := .bool _) rfl)) _ (.inl rfl)
  rfl
end Go.Proofs
end
section
/- WishWhy: for every input the law returns true and the arguments read as they did (the tied card of the statement). Conditions: none beyond the card's own. -/
set_option linter.unusedVariables false
set_option linter.unusedSimpArgs false
set_option maxRecDepth 100000
namespace Go.Proofs.YtlcbpicpociipaaDoor
open Go Go.TL Go.ChangeShapes Go.WideShapes Go.RowKit
theorem wishWhy_lifted (os : Os) (started : os.Started) (H : Type) (enc : TypeId × Value → H) : ReturnsInHanded {} Tryd.checked os 7 .any (fun w args => (Rows.wishWhySpec.pre enc Tryd.prog Tryd.f7 [] false w args ∧ laidMetH Tryd.prog laidC w) ∧ sizedMet enc Tryd.prog Tryd.f7 (OpenSpec.ofChange Rows.wishWhySpec) false w args) (Rows.wishWhySpec.post enc Tryd.prog Tryd.f7 false true false false) := by
  refine returns_law (C := Tryd.checked) (k := 5) Tryd.own started (by kernel_rfl) Tryd.func7 Tryd.laidOut
    (ChangeSpec.witness_at (enc := enc) (C := Tryd.checked) (os := os) (X := fun w _ => laidMetH Tryd.prog laidC w) false (World.laidAll Tryd.prog os laidC) #[.agg #[.int .i64 0, .int .i64 0, .int .i64 0, .int .i64 0, .int .i64 0, .int .i64 0, .int .i64 0, .slice none 0 0], .int .i64 0, .int .i64 0, .int .i64 0, .int .i64 0] 8 (World.laidAll_os _ _ _) (by kernel_rfl) (by kernel_rfl) (by kernel_rfl) (by kernel_rfl) (by kernel_rfl) (by rw [MakeChecks.laidMetH_plain _ _ _ (by kernel_rfl)]; exact laidMet_laidAll _ (by kernel_rfl) (by kernel_rfl)))
    rfl Tryd.tyB (by kernel_rfl) rfl (by kernel_rfl) (fun ds h => ?_) ?_
  · match ds, h with
    | [d0, d1, d2, d3, d4], _ => rfl
  · intro W base args ds p hval hA hL hsh
    have hp : Tryd.f7.params = #[25, 3, 3, 3, 3] := Tryd.params7
    rw [hp] at hval hA
    obtain ⟨hlen, hget⟩ := args_of (params := [25, 3, 3, 3, 3]) (fun j t v h1 h2 => hval j t v (by simpa using h1) h2) hA
    obtain ⟨v0, v1, v2, v3, v4, hargs⟩ : ∃ v0 v1 v2 v3 v4, args.toList = [v0, v1, v2, v3, v4] := by
      match args.toList, hlen with
      | [v0, v1, v2, v3, v4], _ => exact ⟨v0, v1, v2, v3, v4, rfl⟩
    rw [hargs] at hget
    obtain rfl : args = #[v0, v1, v2, v3, v4] := by rw [show args = args.toList.toArray from rfl, hargs]
    obtain ⟨u0, A0, m0, p0, rfl, hm0, hx0, hc0, hs0⟩ := Arg.nums Tryd.numTy (hget 0 25 v0 rfl rfl)
    obtain ⟨n1, rfl, h1⟩ := Arg.i64 Tryd.tyI (hget 1 3 v1 rfl rfl)
    obtain ⟨n2, rfl, h2⟩ := Arg.i64 Tryd.tyI (hget 2 3 v2 rfl rfl)
    obtain ⟨n3, rfl, h3⟩ := Arg.i64 Tryd.tyI (hget 3 3 v3 rfl rfl)
    obtain ⟨n4, rfl, h4⟩ := Arg.i64 Tryd.tyI (hget 4 3 v4 rfl rfl)
    refine ⟨_, c_law15_WishWhy u0 A0 m0 p0 hm0 hx0 hc0 n1 n2 n3 n4 h1.1 h1.2, fun X hX => ?_⟩
    simp only [List.mem_cons, List.not_mem_nil, or_false] at hX
    rcases hX with rfl | rfl
    · exact glob_round hL hsh
    · exact hs0
theorem wishWhy_row : Rows.WishWhySaid :=
  OpenClaim.holds_of_wide 7 Tryd.f7 rfl rfl rfl rfl rfl rfl rfl ⟨rfl, rfl, rfl, rfl, rfl⟩ rfl rfl rfl rfl rfl (by kernel_rfl) Tryd.func7 (by kernel_rfl)
    (of_decide_eq_true (by kernel_rfl)) (by unfold Func.isWrapper; rw [if_neg (of_decide_eq_false (by kernel_rfl))]; exact ⟨rfl, rfl⟩)
    (fun os started H enc _ => wishWhy_lifted os started H enc)
theorem wishWhy_card : Rows.WishWhyCardSaid :=
  Claim7.holds_tied_plain_at .later [] [.data] true (true, "1955aadbdfd000943dcbd3e0cfec305833d08dd00e3708b93b07653100246b85") true wishWhy_row (fun _ h => by cases h) (by kernel_rfl) (fun _ h => by cases h) wishWhy_row_tie rfl ⟨rfl, rfl⟩ (by kernel_rfl) rfl
    (fun f fn hf hfn => by
      obtain rfl : f = 7 := Option.some.inj ((show Tryd.prog.funcNamed "dialtone/dialtonelaw15.WishWhy" = some 7 by kernel_rfl).symm.trans hf) |>.symm
      obtain rfl : fn = Tryd.f7 := (Option.some.inj (Tryd.func7.symm.trans hfn)).symm
      exact ⟨by kernel_rfl, fun j t ht => by
        rw [Tryd.params7] at ht
        have hm : t ∈ [25, 3, 3, 3, 3] := by simpa using Array.mem_of_getElem? ht
        have hall : ([25, 3, 3, 3, 3].all fun u => !Tryd.prog.wantsStandIn u) = true := by kernel_rfl
        exact (show Tryd.prog.wantsStandIn t = false by simpa using List.all_eq_true.1 hall t hm)⟩)
    (by kernel_rfl)
#print axioms wishWhy_card
end Go.Proofs.YtlcbpicpociipaaDoor
end
