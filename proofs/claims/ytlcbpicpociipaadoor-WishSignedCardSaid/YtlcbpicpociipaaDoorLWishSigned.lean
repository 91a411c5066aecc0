/- The tied card of WishSigned: whatever the input, the law returns true, and each argument reads behind the call as it did. No condition beyond the card's own. -/
import Derived.Test.YtlcbpicpociipaaDoorB5
import Derived.JoinedOf
import Derived.SevenTiedAt
import Derived.Test.YtlcbpicpociipaaDoorCards
import Derived.Test.YtlcbpicpociipaaDoorProg
import Derived.Test.YtlcbpicpociipaaDoorRows
import Derived.Test.YtlcbpicpociipaaDoorTie
section
/- What every card of this seat leans on: the types of the arguments, the listed variable. -/
set_option linter.unusedVariables false
set_option linter.unusedSimpArgs false
set_option maxRecDepth 100000
namespace Go.Proofs.YtlcbpicpociipaaDoor
open Go Go.TL Go.ChangeShapes Go.WideShapes Go.RowKit
theorem Tryd.own : ownKnob Tryd.prog.godebug = none := by kernel_rfl
theorem Tryd.laidOut : laidOutB Tryd.prog = true := by kernel_rfl
theorem Tryd.tyI : Tryd.prog.underlying 3 = some (.int .i64) := by kernel_rfl
theorem Tryd.tyB : Tryd.prog.underlying 4 = some .bool := by kernel_rfl
theorem Tryd.tyS : Tryd.prog.underlying 9 = some .string := by kernel_rfl
theorem Tryd.ty8 : Tryd.prog.underlying 5 = some (.int .u8) := by kernel_rfl
theorem Tryd.numTy : NumTy Tryd.prog 25 22 23 76 3 := ⟨by kernel_rfl, by kernel_rfl, by kernel_rfl, by kernel_rfl, by kernel_rfl, by kernel_rfl, by kernel_rfl, by kernel_rfl, by kernel_rfl, by kernel_rfl⟩
abbrev laidC : List (String × DataW Unit) := [("dialtone/digest.round", Rows.laid_dialtone_digest_round)]
def roundZ : List Int := shaK.map fun x => (x.toNat : Int)
theorem round_eq : (roundZ.map (.int .u32 ·)).toArray = roundC := by kernel_rfl
theorem round_datum : (Rows.laid_dialtone_digest_round : DataW Unit) = .agg (roundZ.map fun z => .lit (.int .u32 z)) := by kernel_rfl
theorem glob_round {W : World} (h : laidMetH Tryd.prog laidC W) (hsh : W.ShapedOpen Tryd.prog) : (glob 0 roundC 157).on (fun b => b < W.heap.size) W := by
  have := glob_of (P := Tryd.prog) (t := 157) (e := 126) (m := 64) (zs := roundZ) (by kernel_rfl) rfl round_datum (by kernel_rfl) (by kernel_rfl) (by kernel_rfl) (by kernel_rfl) (by kernel_rfl) (by kernel_rfl) (by kernel_rfl) (by kernel_rfl) (by kernel_rfl) h hsh
  rwa [round_eq] at this
end Go.Proofs.YtlcbpicpociipaaDoor
end
section
/- Facts on the types and functions that the walks of this seat use. Written by a program of this session. -/
set_option linter.unusedVariables false
set_option linter.unusedSimpArgs false
set_option maxRecDepth 100000
set_option maxHeartbeats 800000
namespace Go.Proofs
open Go.TL
attribute [local irreducible] Go.TL.T Go.TL.TO Go.TL.TQ
theorem Tryd.agg25 : TyAgg Tryd.prog 25 8 := ⟨fun w => by kernel_rfl, fun w => by kernel_rfl⟩
theorem Tryd.enters10 : Enters Tryd.prog 10 := fun args w => by kernel_rfl
theorem Tryd.enters11 : Enters Tryd.prog 11 := fun args w => by kernel_rfl
theorem Tryd.enters16 : Enters Tryd.prog 16 := fun args w => by kernel_rfl
end Go.Proofs
end
section
/- Walks: what functions of the program do, by contract. Written by a program of this session. -/
set_option linter.unusedVariables false
set_option linter.unusedSimpArgs false
set_option maxRecDepth 100000
set_option maxHeartbeats 800000
namespace Go.Proofs
open Go.TL
attribute [local irreducible] Go.TL.T Go.TL.TO Go.TL.TQ
/- dialtone/dialtonelaw15.WishSigned -/
theorem c_law15_WishSigned (u : Nums) (A : Option Addr) (m cap : Nat) (hm : m = u.chain.length) (hx : NumsOk u) (hcl : u.chain.length ≤ 9223372036854775807) (nu t : Int) (nu0 : -9223372036854775808 ≤ nu) (nu1 : nu ≤ 9223372036854775807) (t0 : -9223372036854775808 ≤ t) (t1 : t ≤ 9223372036854775807) : Cv Tryd.prog 3 #[.agg #[.int .i64 u.holder, .int .i64 u.r0, .int .i64 u.r1, .int .i64 u.s0, .int .i64 u.s1, .int .i64 u.carrier, .int .i64 u.serial, .slice A m cap], .int .i64 nu, .int .i64 t] [glob 0 roundC 157, slc fiveL 5 A u.chain] (.bool true) := by
  subst hm
  have M := made u
  obtain ⟨g1, g2⟩ := M.sg
  obtain ⟨g3, g4⟩ := M.hd
  obtain ⟨g5, g6, g7⟩ := M.rg
  obtain ⟨g8, g9, g0⟩ := M.sp
  have hll := M.len
  obtain ⟨-, -, hg3, hg4⟩ : True ∧ True ∧ 0 < (madeW u).rhi - (madeW u).rlo + 4 ∧ 0 < (madeW u).shi - (madeW u).slo + 4 := ⟨trivial, trivial, by omega, by omega⟩
  refine Ctr.intro Tryd.func3 rfl Tryd.ntmps3 (Nat.le_of_ble_eq_true rfl) fun S0 w0 => ?_
  refine T.seq ?_
  refine T.region ?_
  refine TO.box (v := .agg #[.int _ _, .int _ _, .int _ _, .int _ _, .int _ _, .int _ _, .int _ _, .slice _ _ _]) rfl (fun b1 => ?_)
  refine TO.rd rfl rfl (rd_assign (v := .bool _) rfl) ?_
  refine TO.nil ?_
  refine TQ.then_normal ?_
  refine T.seq ?_
  refine T.region ?_
  refine TO.fn Tryd.enters10 (cv_b (c_law15_sane) (rfl)) rfl (ReadsC (Has.arg 0 rfl) Reads0) ?_
  refine TO.rd rfl rfl (rd_assign (v := .bool _) rfl) ?_
  refine TO.nil ?_
  refine TQ.then_normal ?_
  refine T.seq ?_
  refine T.seq ?_
  refine T.region ?_
  refine TO.rd rfl rfl (rd_move (v := .bool _) rfl) ?_
  refine TO.rd rfl rfl (rd_not rfl) ?_
  refine TO.nil ?_
  refine TQ.then_normal ?_
  refine T.cond_false rfl ?_
  refine T.skip ?_
  refine TQ.then_normal ?_
  refine T.seq ?_
  refine T.region ?_
  refine TO.rd rfl rfl (rd_load_agg (cs := #[.int _ _, .int _ _, .int _ _, .int _ _, .int _ _, .int _ _, .int _ _, .slice _ _ _]) Tryd.agg25 rfl (Has.own 0 rfl) rfl rfl) ?_
  refine TO.fnx Tryd.enters11 (c_ref15_Made u _ _ _ rfl hx hcl) rfl (ReadsC (Has.arg 1 rfl) Reads0) (fun ⟨A2, c3⟩ hx4 => ?_)
  refine TO.rd rfl rfl (rd_move (v := .tuple _) rfl) ?_
  refine TO.rd rfl rfl (rd_extract (v := .agg _) (vs := _) rfl rfl) ?_
  refine TO.rd rfl rfl (rd_extract (v := .slice _ _ _) (vs := _) rfl rfl) ?_
  refine TO.alloc Tryd.zero31 (fun b6 => ?_)
  refine TO.store0 (cells' := #[.int _ _, .int _ _, .int _ _, .int _ _, .int _ _, .int _ _, .int _ _, .int _ _, .string _]) Tryd.size31 rfl (v := .agg #[.int _ _, .int _ _, .int _ _, .int _ _, .int _ _, .int _ _, .int _ _, .int _ _, .string _]) rfl rfl rfl (Nat.le_of_ble_eq_true rfl) rfl ?_
  refine TO.rd rfl rfl (rd_assign (v := .slice _ _ _) rfl) ?_
  refine TO.nil ?_
  refine TQ.then_normal ?_
  refine T.seq ?_
  refine T.drawn Tryd.mixes 10 [(27, 0), (28, 1), (29, 2), (30, 3), (31, 4), (26, 5), (32, 6), (33, 7), (10, 8)] [0, 1, 3, 0, 15, 31, 63, 63, 0, 383, 1023] [8] 9 8 (by kernel_rfl) rfl ?_
  refine DX.rd rfl rfl rfl (fun _ _ => rd_fieldAddr Tryd.field31_0 rfl) ?_
  refine DX.rd rfl rfl rfl (fun _ _ => rd_load (v := .int _ _) Tryd.one3 rfl (Has.own 0 rfl) rfl) ?_
  refine DX.fn rfl rfl Tryd.enters13 (c_ref15_Key ((madeW u).signer)) (fun _ _ => rfl) Reads0 ?_
  refine DX.rd rfl rfl rfl (fun _ _ => rd_load_agg (cs := #[.int _ _, .int _ _, .int _ _, .int _ _, .int _ _, .int _ _, .int _ _, .int _ _, .string _]) Tryd.agg31 rfl (Has.own 0 rfl) rfl rfl) ?_
  refine DX.fn rfl rfl Tryd.enters12 (cv_sw (c_wish_SignWish (keyB (madeW u).signer) (madeW u) (by first | (rw [keyB_len]; omega) | omega | assumption)) M.signs) (fun _ _ => rfl) (ReadsC (Has.arg 0 rfl) Reads0) ?_
  refine DX.rd rfl rfl rfl (fun _ _ => rd_move (v := .tuple _) rfl) ?_
  refine DX.rd rfl rfl rfl (fun _ _ => rd_extract (v := .agg _) (vs := _) rfl rfl) ?_
  refine DX.rd rfl rfl rfl (fun _ _ => rd_extract (v := .int _ _) (vs := _) rfl rfl) ?_
  refine DX.alloc rfl rfl Tryd.zero31 ?_
  refine DX.stn (v := .agg #[.int _ _, .int _ _, .int _ _, .int _ _, .int _ _, .int _ _, .int _ _, .int _ _, .string _]) (cells' := #[.int _ _, .int _ _, .int _ _, .int _ _, .int _ _, .int _ _, .int _ _, .int _ _, .string _]) rfl rfl rfl rfl (by kernel_rfl) Tryd.size31 rfl (fun _ _ => rfl) (fun _ _ => rfl) rfl rfl (Nat.le_of_ble_eq_true rfl) rfl ?_
  refine DX.done [] rfl rfl (by decide) rfl (fun gh8 => ?_)
  refine TO.rd rfl rfl (rd_assign (v := .int _ _) rfl) ?_
  refine TO.nil ?_
  refine TQ.then_normal ?_
  refine T.seq ?_
  refine T.seq ?_
  refine T.region ?_
  refine TO.rd rfl rfl (rd_move (v := .int _ _) rfl) ?_
  refine TO.rd rfl rfl (rd_b (b := false) (rd_neq rfl rfl) (by first | exact decide_eq_false (by omega) | (rw [bne_eq_false_iff_eq]; omega) | (simp; done) | (simp; omega))) ?_
  refine TO.rd rfl rfl (rd_move (v := .bool _) rfl) ?_
  refine TO.guard_true (s := 36) rfl rfl ?_
  refine TO.rd rfl rfl (rd_load_agg (cs := #[.int _ _, .int _ _, .int _ _, .int _ _, .int _ _, .int _ _, .int _ _, .int _ _, .string _]) Tryd.agg31 rfl (Has.own 0 rfl) rfl rfl) ?_
  refine TO.guard_true (s := 36) rfl rfl ?_
  refine TO.rd rfl rfl (rd_load_agg (cs := #[.int _ _, .int _ _, .int _ _, .int _ _, .int _ _, .int _ _, .int _ _, .int _ _, .string _]) Tryd.agg31 rfl (Has.own 1 rfl) rfl rfl) ?_
  refine TO.guard_true (s := 36) rfl rfl ?_
  refine TO.rd rfl rfl (rd_b (b := false) (rd_new Tryd.eqty (p := (madeW u)) (q := (madeW u)) rfl rfl) (by first | exact decide_eq_false (by omega) | (rw [bne_eq_false_iff_eq]; omega) | (simp; done) | (simp; omega))) ?_
  refine TO.rd rfl rfl (rd_pick_false (v := .bool _) rfl rfl) ?_
  refine TO.rd rfl rfl (rd_move (v := .bool _) rfl) ?_
  refine TO.guard_true (s := 41) rfl rfl ?_
  refine TO.rd rfl rfl (rd_load_agg (cs := #[.int _ _, .int _ _, .int _ _, .int _ _, .int _ _, .int _ _, .int _ _, .int _ _, .string _]) Tryd.agg31 rfl (Has.own 1 rfl) rfl rfl) ?_
  refine TO.guard_true (s := 41) rfl rfl ?_
  refine TO.rd rfl rfl (rd_move (v := .slice _ _ _) rfl) ?_
  refine TO.guard_true (s := 41) rfl rfl ?_
  refine TO.fn Tryd.enters14 (cv_b (c_wish_Formed (madeW u) _ _ _ (madeL u) (by first | rfl | simp | omega) (by first | omega | assumption | simp)) (M.formed)) rfl (ReadsC (row_slc' (e := proxyL) (xs := (madeL u)) (fun _ => rfl) (rfl) (rfl) (Has.own 2 rfl)) Reads0) ?_
  refine TO.guard_true (s := 41) rfl rfl ?_
  refine TO.rd rfl rfl (rd_not rfl) ?_
  refine TO.rd rfl rfl (rd_pick_false (v := .bool _) rfl rfl) ?_
  refine TO.nil ?_
  refine TQ.then_normal ?_
  refine T.cond_false rfl ?_
  refine T.skip ?_
  refine TQ.then_normal ?_
  refine T.seq ?_
  refine T.seq ?_
  refine T.region ?_
  refine TO.rd rfl rfl (rd_assign (v := .int _ _) rfl) ?_
  refine TO.nil ?_
  refine TQ.then_normal ?_
  refine T.block ?_
  refine T.loop1 [1, 2, 8, 9] (fun (k : Nat) => [(12, .int .i64 (k : Nat))]) (fun (k : Nat) => []) (fun (k : Nat) => k ≤ (madeL u).length) (fun (k : Nat) => (madeL u).length - k) (0) (Nat.zero_le _) (And.intro (rfl) (trivial)) (fun _ _ h => h) fun k g0 hx0 => ?_
  refine T.seq ?_
  refine T.seq ?_
  refine T.region ?_
  refine TO.rd rfl rfl (rd_move (v := .int _ _) rfl) ?_
  refine TO.rd rfl rfl (rd_move (v := .slice _ _ _) rfl) ?_
  refine TO.rd rfl rfl (rd_lensl Tryd.under32 rfl) ?_
  refine TO.rd rfl rfl (rd_lss rfl rfl) ?_
  refine TO.nil ?_
  refine TQ.then_normal ?_
  refine T.cond rfl (fun h9 => ?_) (fun h9 => ?_)
  · try simp only [decide_eq_true_eq, decide_eq_false_iff_not, Bool.not_eq_true', Bool.not_eq_false', Bool.not_eq_eq_eq_not, Bool.not_true, Bool.not_false, beq_iff_eq, beq_eq_false_iff_ne, bne_iff_ne, bne_eq_false_iff_eq, ne_eq, Int.not_lt, Int.not_le, Decidable.not_not] at h9
    refine T.skip ?_
    refine TQ.then_normal ?_
    refine T.seq ?_
    refine T.block ?_
    refine T.seq ?_
    refine T.drawn Tryd.mixes 16 [(54, 0), (55, 1), (56, 2), (57, 3), (58, 4), (59, 5), (60, 6), (61, 7), (62, 8), (63, 9), (64, 10), (53, 11), (65, 12), (66, 13), (13, 14)] [0, 0, 3, 7, 15, 31, 0, 0, 192, 448, 1023, 2047, 4095, 4095, 0, 24575, 65535] [14] 15 14 (by kernel_rfl) rfl ?_
    refine DX.rd rfl rfl rfl (fun _ _ => rd_move (v := .slice _ _ _) rfl) ?_
    refine DX.rd rfl rfl rfl (fun _ _ => rd_move (v := .int _ _) rfl) ?_
    refine DX.rd rfl rfl rfl (fun _ _ => rd_ix (k := k) Tryd.under32 Tryd.size41 rfl rfl (row_slc' (e := proxyL) (xs := (madeL u)) (fun _ => rfl) (rfl) (rfl) (Has.own 2 rfl)) rfl (by omega) (by omega)) ?_
    refine DX.rd rfl rfl rfl (fun _ _ => rd_ixf Tryd.field41_0 rfl (row_slc' (e := proxyL) (xs := (madeL u)) (fun _ => rfl) (rfl) (rfl) (Has.own 2 rfl)) (by omega)) ?_
    refine DX.rd rfl rfl rfl (fun _ _ => rd_el (v := .int _ _) k 0 Tryd.one3 rfl (row_slc' (e := proxyL) (xs := (madeL u)) (fun _ => rfl) (rfl) (rfl) (Has.own 2 rfl)) rfl (by omega) (Nat.le_of_ble_eq_true rfl) rfl) ?_
    refine DX.fn rfl rfl Tryd.enters13 (c_ref15_Key (((madeL u)[k]'(by omega)).frm)) (fun _ _ => rfl) Reads0 ?_
    refine DX.rd rfl rfl rfl (fun _ _ => rd_move (v := .slice _ _ _) rfl) ?_
    refine DX.rd rfl rfl rfl (fun _ _ => rd_move (v := .int _ _) rfl) ?_
    refine DX.rd rfl rfl rfl (fun _ _ => rd_ix (k := k) Tryd.under32 Tryd.size41 rfl rfl (row_slc' (e := proxyL) (xs := (madeL u)) (fun _ => rfl) (rfl) (rfl) (Has.own 2 rfl)) rfl (by omega) (by omega)) ?_
    refine DX.rd rfl rfl rfl (fun _ _ => rd_ela (cs := [.int _ _, .int _ _, .int _ _, .int _ _, .int _ _, .int _ _, .string _]) k 0 Tryd.agg41 rfl (row_slc' (e := proxyL) (xs := (madeL u)) (fun _ => rfl) (rfl) (rfl) (Has.own 2 rfl)) rfl (by omega) (Nat.le_of_ble_eq_true rfl) rfl rfl rfl) ?_
    refine DX.fn rfl rfl Tryd.enters15 (cv_sp (c_wish_SignProxy (keyB ((madeL u)[k]'(by omega)).frm) (((madeL u)[k]'(by omega))) (by first | (rw [keyB_len]; omega) | omega | assumption)) (M.sameAt (by omega))) (fun _ _ => rfl) (ReadsC (Has.arg 0 rfl) Reads0) ?_
    refine DX.rd rfl rfl rfl (fun _ _ => rd_move (v := .tuple _) rfl) ?_
    refine DX.rd rfl rfl rfl (fun _ _ => rd_extract (v := .agg _) (vs := _) rfl rfl) ?_
    refine DX.rd rfl rfl rfl (fun _ _ => rd_extract (v := .int _ _) (vs := _) rfl rfl) ?_
    refine DX.alloc rfl rfl Tryd.zero41 ?_
    refine DX.stn (v := .agg #[.int _ _, .int _ _, .int _ _, .int _ _, .int _ _, .int _ _, .string _]) (cells' := #[.int _ _, .int _ _, .int _ _, .int _ _, .int _ _, .int _ _, .string _]) rfl rfl rfl rfl (by kernel_rfl) Tryd.size41 rfl (fun _ _ => rfl) (fun _ _ => rfl) rfl rfl (Nat.le_of_ble_eq_true rfl) rfl ?_
    refine DX.done [] rfl rfl (by decide) rfl (fun gh11 => ?_)
    refine TO.rd rfl rfl (rd_assign (v := .int _ _) rfl) ?_
    refine TO.nil ?_
    refine TQ.then_normal ?_
    refine T.seq ?_
    refine T.drawq Tryd.mixes 8 [(67, 0), (68, 1), (69, 2), (70, 3), (71, 4), (72, 5), (73, 6), (74, 7)] [0, 1, 3, 7, 7, 7, 55, 119, 255, 511] (by kernel_rfl) ?_
    refine DQ.rd rfl rfl (fun _ => rd_move (v := .int _ _) rfl) ?_
    refine DQ.rd rfl rfl (fun _ => rd_b (b := false) (rd_neq rfl rfl) (by first | exact decide_eq_false (by omega) | (rw [bne_eq_false_iff_eq]; omega) | (simp; done) | (simp; omega))) ?_
    refine DQ.rd rfl rfl (fun _ => rd_move (v := .bool _) rfl) ?_
    refine DQ.rdg rfl rfl (fun _ => rfl) (fun _ => rd_load_agg (cs := #[.int _ _, .int _ _, .int _ _, .int _ _, .int _ _, .int _ _, .string _]) Tryd.agg41 rfl (Has.own 0 rfl) rfl rfl) ?_
    refine DQ.rdg rfl rfl (fun _ => rfl) (fun _ => rd_move (v := .slice _ _ _) rfl) ?_
    refine DQ.rdg rfl rfl (fun _ => rfl) (fun _ => rd_move (v := .int _ _) rfl) ?_
    refine DQ.rdg rfl rfl (fun _ => rfl) (fun _ => rd_ix (k := k) Tryd.under32 Tryd.size41 rfl rfl (row_slc' (e := proxyL) (xs := (madeL u)) (fun _ => rfl) (rfl) (rfl) (Has.own 3 rfl)) rfl (by omega) (by omega)) ?_
    refine DQ.rdg rfl rfl (fun _ => rfl) (fun _ => rd_ela (cs := [.int _ _, .int _ _, .int _ _, .int _ _, .int _ _, .int _ _, .string _]) k 0 Tryd.agg41 rfl (row_slc' (e := proxyL) (xs := (madeL u)) (fun _ => rfl) (rfl) (rfl) (Has.own 3 rfl)) rfl (by omega) (Nat.le_of_ble_eq_true rfl) rfl rfl rfl) ?_
    refine DQ.done rfl ?_
    refine TO.guard_true (s := 69) rfl rfl ?_
    refine TO.rd rfl rfl (rd_b (b := false) (rd_nep Tryd.eqty (p := ((madeL u)[k]'(by omega))) (q := ((madeL u)[k]'(by omega))) rfl rfl) (by first | exact decide_eq_false (by omega) | (rw [bne_eq_false_iff_eq]; omega) | (simp; done) | (simp; omega))) ?_
    refine TO.rd rfl rfl (rd_pick_false (v := .bool _) rfl rfl) ?_
    refine TO.nil ?_
    refine TQ.then_normal ?_
    refine T.cond_false rfl ?_
    refine T.skip ?_
    refine TQ.block_normal ?_
    refine TQ.then_normal ?_
    refine T.region ?_
    refine TO.rd rfl rfl (rd_move (v := .int _ _) rfl) ?_
    refine TO.rd rfl rfl (rd_add rfl rfl (w64 (by omega) (by omega))) ?_
    refine TO.rd rfl rfl (rd_assign (v := .int _ _) rfl) ?_
    refine TO.nil ?_
    refine TQ.againk (k + 1) ?_ ?_ (And.intro (rfl) (trivial)) (And.intro (rfl) (And.intro (rfl) (And.intro (rfl) (And.intro (rfl) (trivial))))) (fun _ _ h => h.sel (js := [1, 2, 3, 4]) (by decide))
    · first | omega | (dsimp only; omega)
    · first | omega | (dsimp only; omega)
  try simp only [decide_eq_true_eq, decide_eq_false_iff_not, Bool.not_eq_true', Bool.not_eq_false', Bool.not_eq_eq_eq_not, Bool.not_true, Bool.not_false, beq_iff_eq, beq_eq_false_iff_ne, bne_iff_ne, bne_eq_false_iff_eq, ne_eq, Int.not_lt, Int.not_le, Decidable.not_not] at h9
  refine T.exit ?_
  refine TQ.then_exit ?_
  refine TQ.then_exit ?_
  refine TQ.block_out ?_
  refine TQ.then_normal ?_
  refine T.seq ?_
  refine T.drawq Tryd.mixes 13 [(77, 0), (78, 1), (79, 2), (80, 3), (81, 4), (82, 5), (83, 6), (84, 7), (85, 8), (86, 9), (87, 10), (88, 11), (89, 12)] [0, 1, 3, 0, 0, 16, 48, 0, 128, 384, 1008, 2032, 4088, 8191, 16383, 32767] (by kernel_rfl) ?_
  refine DQ.rd rfl rfl (fun _ => rd_fieldAddr Tryd.field31_2 rfl) ?_
  refine DQ.rd rfl rfl (fun _ => rd_fieldAddr Tryd.field28_0 rfl) ?_
  refine DQ.rd rfl rfl (fun _ => rd_load (v := .int _ _) Tryd.one3 rfl (Has.own 1 rfl) rfl) ?_
  refine DQ.rd rfl rfl (fun _ => rd_move (v := .int _ _) rfl) ?_
  refine DQ.rd rfl rfl (fun _ => rd_fieldAddr Tryd.field31_2 rfl) ?_
  refine DQ.rd rfl rfl (fun _ => rd_fieldAddr Tryd.field28_1 rfl) ?_
  refine DQ.rd rfl rfl (fun _ => rd_load (v := .int _ _) Tryd.one3 rfl (Has.own 1 rfl) rfl) ?_
  refine DQ.rd rfl rfl (fun _ => rd_fieldAddr Tryd.field31_2 rfl) ?_
  refine DQ.rd rfl rfl (fun _ => rd_fieldAddr Tryd.field28_0 rfl) ?_
  refine DQ.rd rfl rfl (fun _ => rd_load (v := .int _ _) Tryd.one3 rfl (Has.own 1 rfl) rfl) ?_
  refine DQ.rd rfl rfl (fun _ => rd_sub rfl rfl (w64 (by omega) (by omega))) ?_
  refine DQ.rd rfl rfl (fun _ => rd_add rfl rfl (w64 (by omega) (by omega))) ?_
  have q1 := pickN_lo (c := nu) (n := (madeW u).rhi - (madeW u).rlo + 4) (by omega)
  have q1' := pickN_hi (c := nu) (n := (madeW u).rhi - (madeW u).rlo + 4) (by omega)
  refine DQ.fn rfl Tryd.enters16 (c_law15_pick _ _ (by omega) (by omega) (by omega) (by omega)) (fun _ => rfl) Reads0 ?_
  refine DQ.done rfl ?_
  refine TO.rd rfl rfl (rd_add rfl rfl (w64 (by omega) (by omega))) ?_
  refine TO.rd rfl rfl (rd_sub rfl rfl (w64 (by omega) (by omega))) ?_
  refine TO.rd rfl rfl (rd_assign (v := .int _ _) rfl) ?_
  refine TO.nil ?_
  refine TQ.then_normal ?_
  refine T.seq ?_
  refine T.drawq Tryd.mixes 13 [(92, 0), (93, 1), (94, 2), (95, 3), (96, 4), (97, 5), (98, 6), (99, 7), (100, 8), (101, 9), (102, 10), (103, 11), (104, 12)] [0, 1, 3, 0, 0, 16, 48, 0, 128, 384, 1008, 2032, 4088, 8191, 16383, 32767] (by kernel_rfl) ?_
  refine DQ.rd rfl rfl (fun _ => rd_fieldAddr Tryd.field31_5 rfl) ?_
  refine DQ.rd rfl rfl (fun _ => rd_fieldAddr Tryd.field29_0 rfl) ?_
  refine DQ.rd rfl rfl (fun _ => rd_load (v := .int _ _) Tryd.one3 rfl (Has.own 1 rfl) rfl) ?_
  refine DQ.rd rfl rfl (fun _ => rd_move (v := .int _ _) rfl) ?_
  refine DQ.rd rfl rfl (fun _ => rd_fieldAddr Tryd.field31_5 rfl) ?_
  refine DQ.rd rfl rfl (fun _ => rd_fieldAddr Tryd.field29_1 rfl) ?_
  refine DQ.rd rfl rfl (fun _ => rd_load (v := .int _ _) Tryd.one3 rfl (Has.own 1 rfl) rfl) ?_
  refine DQ.rd rfl rfl (fun _ => rd_fieldAddr Tryd.field31_5 rfl) ?_
  refine DQ.rd rfl rfl (fun _ => rd_fieldAddr Tryd.field29_0 rfl) ?_
  refine DQ.rd rfl rfl (fun _ => rd_load (v := .int _ _) Tryd.one3 rfl (Has.own 1 rfl) rfl) ?_
  refine DQ.rd rfl rfl (fun _ => rd_sub rfl rfl (w64 (by omega) (by omega))) ?_
  refine DQ.rd rfl rfl (fun _ => rd_add rfl rfl (w64 (by omega) (by omega))) ?_
  have q2 := pickN_lo (c := t) (n := (madeW u).shi - (madeW u).slo + 4) (by omega)
  have q2' := pickN_hi (c := t) (n := (madeW u).shi - (madeW u).slo + 4) (by omega)
  refine DQ.fn rfl Tryd.enters16 (c_law15_pick _ _ (by omega) (by omega) (by omega) (by omega)) (fun _ => rfl) Reads0 ?_
  refine DQ.done rfl ?_
  refine TO.rd rfl rfl (rd_add rfl rfl (w64 (by omega) (by omega))) ?_
  refine TO.rd rfl rfl (rd_sub rfl rfl (w64 (by omega) (by omega))) ?_
  refine TO.rd rfl rfl (rd_assign (v := .int _ _) rfl) ?_
  refine TO.nil ?_
  refine TQ.then_normal ?_
  refine T.seq ?_
  refine T.region ?_
  refine TO.rd rfl rfl (rd_fieldAddr Tryd.field31_2 rfl) ?_
  refine TO.rd rfl rfl (rd_fieldAddr Tryd.field28_0 rfl) ?_
  refine TO.rd rfl rfl (rd_load (v := .int _ _) Tryd.one3 rfl (Has.own 1 rfl) rfl) ?_
  refine TO.rd rfl rfl (rd_move (v := .int _ _) rfl) ?_
  refine TO.rd rfl rfl (rd_leq rfl rfl) ?_
  refine TO.rd rfl rfl (rd_move (v := .bool _) rfl) ?_
  refine TO.decide_ft (s := 112) rfl (fun h12 => ?_) (fun h12 => ?_)
  · try simp only [decide_eq_true_eq, decide_eq_false_iff_not, Bool.not_eq_true', Bool.not_eq_false', Bool.not_eq_eq_eq_not, Bool.not_true, Bool.not_false, beq_iff_eq, beq_eq_false_iff_ne, bne_iff_ne, bne_eq_false_iff_eq, ne_eq, Int.not_lt, Int.not_le, Decidable.not_not] at h12
    refine TO.guard_false (s := 112) (b' := false) rfl rfl nofun ?_
    refine TO.guard_false (s := 112) (b' := false) rfl rfl nofun ?_
    refine TO.guard_false (s := 112) (b' := false) rfl rfl nofun ?_
    refine TO.guard_false (s := 112) (b' := false) rfl rfl nofun ?_
    refine TO.guard_false (s := 112) (b' := false) rfl rfl nofun ?_
    refine TO.rd rfl rfl (rd_pick_false (v := .bool _) rfl rfl) ?_
    refine TO.rd rfl rfl (rd_move (v := .bool _) rfl) ?_
    refine TO.guard_false (s := 119) (b' := false) rfl rfl nofun ?_
    refine TO.guard_false (s := 119) (b' := false) rfl rfl nofun ?_
    refine TO.guard_false (s := 119) (b' := false) rfl rfl nofun ?_
    refine TO.guard_false (s := 119) (b' := false) rfl rfl nofun ?_
    refine TO.guard_false (s := 119) (b' := false) rfl rfl nofun ?_
    refine TO.rd rfl rfl (rd_pick_false (v := .bool _) rfl rfl) ?_
    refine TO.rd rfl rfl (rd_move (v := .bool _) rfl) ?_
    refine TO.guard_false (s := 126) (b' := false) rfl rfl nofun ?_
    refine TO.guard_false (s := 126) (b' := false) rfl rfl nofun ?_
    refine TO.guard_false (s := 126) (b' := false) rfl rfl nofun ?_
    refine TO.guard_false (s := 126) (b' := false) rfl rfl nofun ?_
    refine TO.guard_false (s := 126) (b' := false) rfl rfl nofun ?_
    refine TO.rd rfl rfl (rd_pick_false (v := .bool _) rfl rfl) ?_
    refine TO.rd rfl rfl (rd_assign (v := .bool _) rfl) ?_
    refine TO.nil ?_
    refine TQ.then_normal ?_
    refine T.seq ?_
    refine T.drawg Tryd.mixes 19 [(133, 0), (134, 1), (135, 2), (136, 3), (137, 4), (138, 5), (139, 6), (140, 7), (141, 8), (142, 9), (143, 10), (144, 11), (145, 12), (146, 13), (147, 14), (148, 15), (149, 16), (150, 17), (151, 18)] [0, 0, 0, 0, 0, 31, 0, 127, 255, 511, 511, 511, 511, 4607, 12799, 511, 33279, 98815, 229887, 524287, 1048575, 2097151] [0, 9] (by kernel_rfl) ?_
    refine DG.fnx rfl rfl Tryd.enters18 (c_ref15_Keys) (fun _ _ => rfl) Reads0 ?_
    refine DG.rd rfl rfl rfl (fun _ _ => rd_load_agg (cs := #[.int _ _, .int _ _, .int _ _, .int _ _, .int _ _, .int _ _, .int _ _, .int _ _, .string _]) Tryd.agg31 rfl (Has.own 1 rfl) rfl rfl) ?_
    refine DG.rd rfl rfl rfl (fun _ _ => rd_move (v := .slice _ _ _) rfl) ?_
    refine DG.rd rfl rfl rfl (fun _ _ => rd_move (v := .int _ _) rfl) ?_
    refine DG.rd rfl rfl rfl (fun _ _ => rd_move (v := .int _ _) rfl) ?_
    refine DG.fnp rfl rfl Tryd.enters17 (fun ρ => c_wish_Valid (ρ 0).1 (ρ 0).2 10 (keysN 10) (by first | rfl | simp [keysN_len]) (madeW u) _ _ _ (madeL u) (by first | rfl | simp | omega) ((madeW u).rlo + pickN nu ((madeW u).rhi - (madeW u).rlo + 4) - 2) ((madeW u).slo + pickN t ((madeW u).shi - (madeW u).slo + 4) - 2) (by first | omega | assumption | (rw [keysN_len]; omega) | (simp only [List.length_drop, List.length_take, List.length_set, keysN_len]; omega)) (by first | omega | assumption | (simp; done) | (simp only [List.length_drop, List.length_take, List.length_append]; omega))) (fun _ _ => rfl) (fun ρ M hM => (ReadsC (Has.arg 0 rfl) (ReadsC (row_slc' (e := eStr) (xs := (keysN 10)) (fun _ => rfl) (by first | rfl | simp [keysN_len]) (by first | rfl | exact bytesC_flat _) (Has.fromM 0 (hM 0 rfl))) (ReadsC (Has.appR (row_slc' (e := proxyL) (xs := (madeL u)) (fun _ => rfl) (rfl) (rfl) (Has.own 2 rfl))) Reads0)))) ?_
    refine DG.rd rfl rfl rfl (fun _ _ => rd_move (v := .bool _) rfl) ?_
    refine DG.rd rfl rfl rfl (fun _ _ => rd_b (b := true) (rd_eqb Tryd.under4 rfl rfl) (by first | (rw [M.valid, beq_iff_eq, decide_eq_decide]; omega) | (rw [M.valid, decide_eq_true (by omega)]; rfl) | (rw [M.valid, decide_eq_false (by omega)]; simp_all; done) | (rw [M.valid, decide_eq_false (by omega), decide_eq_false (by omega)]; rfl) | (rw [M.valid, decide_eq_true (by omega), decide_eq_true (by omega)]; rfl))) ?_
    refine DG.rd rfl rfl rfl (fun _ _ => rd_move (v := .bool _) rfl) ?_
    refine DG.fnxg rfl rfl rfl (fun _ _ => rfl) Tryd.enters18 (c_ref15_Keys) (fun _ _ => rfl) Reads0 ?_
    refine DG.rdg rfl rfl rfl (fun _ _ => rfl) (fun _ _ => rd_load_agg (cs := #[.int _ _, .int _ _, .int _ _, .int _ _, .int _ _, .int _ _, .int _ _, .int _ _, .string _]) Tryd.agg31 rfl (Has.own 1 rfl) rfl rfl) ?_
    refine DG.rdg rfl rfl rfl (fun _ _ => rfl) (fun _ _ => rd_move (v := .slice _ _ _) rfl) ?_
    refine DG.rdg rfl rfl rfl (fun _ _ => rfl) (fun _ _ => rd_fieldAddr Tryd.field31_2 rfl) ?_
    refine DG.rdg rfl rfl rfl (fun _ _ => rfl) (fun _ _ => rd_fieldAddr Tryd.field28_0 rfl) ?_
    refine DG.rdg rfl rfl rfl (fun _ _ => rfl) (fun _ _ => rd_load (v := .int _ _) Tryd.one3 rfl (Has.own 1 rfl) rfl) ?_
    refine DG.rdg rfl rfl rfl (fun _ _ => rfl) (fun _ _ => rd_fieldAddr Tryd.field31_5 rfl) ?_
    refine DG.rdg rfl rfl rfl (fun _ _ => rfl) (fun _ _ => rd_fieldAddr Tryd.field29_1 rfl) ?_
    refine DG.rdg rfl rfl rfl (fun _ _ => rfl) (fun _ _ => rd_load (v := .int _ _) Tryd.one3 rfl (Has.own 1 rfl) rfl) ?_
    refine DG.rdg rfl rfl rfl (fun _ _ => rfl) (fun _ _ => rd_sub rfl rfl (w64 (by omega) (by omega))) ?_
    refine DG.done rfl (by decide) rfl (fun gh26 => ?_)
    refine TO.guard_true (s := 141) rfl rfl ?_
    refine TO.fn Tryd.enters17 (c_wish_Valid _ _ _ (keysN 10) (by first | rfl | simp | omega) (madeW u) _ _ _ (madeL u) (by first | rfl | simp | omega) ((madeW u).rlo) ((madeW u).shi - 1) (by first | omega | assumption | (rw [keysN_len]; omega) | (simp only [List.length_drop, List.length_take, List.length_set, keysN_len]; omega)) (by first | omega | assumption | (simp; done) | (simp only [List.length_drop, List.length_take, List.length_append]; omega))) rfl (ReadsC (Has.arg 0 rfl) (ReadsC (row_slc' (e := eStr) (xs := (keysN 10)) (fun _ => rfl) (by first | rfl | omega | simp) (rfl) (Has.own 1 rfl)) (ReadsC (row_slc' (e := proxyL) (xs := (madeL u)) (fun _ => rfl) (rfl) (rfl) (Has.own 4 rfl)) Reads0))) ?_
    refine TO.rd rfl rfl (rd_pick_true (v := .bool _) rfl rfl) ?_
    refine TO.rd rfl rfl (rd_assign (v := .bool _) rfl) ?_
    refine TO.nil ?_
    refine TQ.then_normal ?_
    refine T.ret ?_
    refine TQ.value ?_ (res1 Tryd.results3 (Res.tmp (v := .bool _) rfl)) _ (.inl rfl)
    exact congrArg Value.bool (by rw [M.valid]; exact (decide_eq_true (by omega)).symm)
  try simp only [decide_eq_true_eq, decide_eq_false_iff_not, Bool.not_eq_true', Bool.not_eq_false', Bool.not_eq_eq_eq_not, Bool.not_true, Bool.not_false, beq_iff_eq, beq_eq_false_iff_ne, bne_iff_ne, bne_eq_false_iff_eq, ne_eq, Int.not_lt, Int.not_le, Decidable.not_not] at h12
  refine TO.guard_true (s := 112) rfl rfl ?_
  refine TO.rd rfl rfl (rd_move (v := .int _ _) rfl) ?_
  refine TO.guard_true (s := 112) rfl rfl ?_
  refine TO.rd rfl rfl (rd_fieldAddr Tryd.field31_2 rfl) ?_
  refine TO.guard_true (s := 112) rfl rfl ?_
  refine TO.rd rfl rfl (rd_fieldAddr Tryd.field28_1 rfl) ?_
  refine TO.guard_true (s := 112) rfl rfl ?_
  refine TO.rd rfl rfl (rd_load (v := .int _ _) Tryd.one3 rfl (Has.own 1 rfl) rfl) ?_
  refine TO.guard_true (s := 112) rfl rfl ?_
  refine TO.rd rfl rfl (rd_lss rfl rfl) ?_
  refine TO.rd rfl rfl (rd_pick_true (v := .bool _) rfl rfl) ?_
  refine TO.rd rfl rfl (rd_move (v := .bool _) rfl) ?_
  refine TO.decide_ft (s := 119) rfl (fun h13 => ?_) (fun h13 => ?_)
  · try simp only [decide_eq_true_eq, decide_eq_false_iff_not, Bool.not_eq_true', Bool.not_eq_false', Bool.not_eq_eq_eq_not, Bool.not_true, Bool.not_false, beq_iff_eq, beq_eq_false_iff_ne, bne_iff_ne, bne_eq_false_iff_eq, ne_eq, Int.not_lt, Int.not_le, Decidable.not_not] at h13
    refine TO.guard_false (s := 119) (b' := false) rfl rfl nofun ?_
    refine TO.guard_false (s := 119) (b' := false) rfl rfl nofun ?_
    refine TO.guard_false (s := 119) (b' := false) rfl rfl nofun ?_
    refine TO.guard_false (s := 119) (b' := false) rfl rfl nofun ?_
    refine TO.guard_false (s := 119) (b' := false) rfl rfl nofun ?_
    refine TO.rd rfl rfl (rd_pick_false (v := .bool _) rfl rfl) ?_
    refine TO.rd rfl rfl (rd_move (v := .bool _) rfl) ?_
    refine TO.guard_false (s := 126) (b' := false) rfl rfl nofun ?_
    refine TO.guard_false (s := 126) (b' := false) rfl rfl nofun ?_
    refine TO.guard_false (s := 126) (b' := false) rfl rfl nofun ?_
    refine TO.guard_false (s := 126) (b' := false) rfl rfl nofun ?_
    refine TO.guard_false (s := 126) (b' := false) rfl rfl nofun ?_
    refine TO.rd rfl rfl (rd_pick_false (v := .bool _) rfl rfl) ?_
    refine TO.rd rfl rfl (rd_assign (v := .bool _) rfl) ?_
    refine TO.nil ?_
    refine TQ.then_normal ?_
    refine T.seq ?_
    refine T.drawg Tryd.mixes 19 [(133, 0), (134, 1), (135, 2), (136, 3), (137, 4), (138, 5), (139, 6), (140, 7), (141, 8), (142, 9), (143, 10), (144, 11), (145, 12), (146, 13), (147, 14), (148, 15), (149, 16), (150, 17), (151, 18)] [0, 0, 0, 0, 0, 31, 0, 127, 255, 511, 511, 511, 511, 4607, 12799, 511, 33279, 98815, 229887, 524287, 1048575, 2097151] [0, 9] (by kernel_rfl) ?_
    refine DG.fnx rfl rfl Tryd.enters18 (c_ref15_Keys) (fun _ _ => rfl) Reads0 ?_
    refine DG.rd rfl rfl rfl (fun _ _ => rd_load_agg (cs := #[.int _ _, .int _ _, .int _ _, .int _ _, .int _ _, .int _ _, .int _ _, .int _ _, .string _]) Tryd.agg31 rfl (Has.own 1 rfl) rfl rfl) ?_
    refine DG.rd rfl rfl rfl (fun _ _ => rd_move (v := .slice _ _ _) rfl) ?_
    refine DG.rd rfl rfl rfl (fun _ _ => rd_move (v := .int _ _) rfl) ?_
    refine DG.rd rfl rfl rfl (fun _ _ => rd_move (v := .int _ _) rfl) ?_
    refine DG.fnp rfl rfl Tryd.enters17 (fun ρ => c_wish_Valid (ρ 0).1 (ρ 0).2 10 (keysN 10) (by first | rfl | simp [keysN_len]) (madeW u) _ _ _ (madeL u) (by first | rfl | simp | omega) ((madeW u).rlo + pickN nu ((madeW u).rhi - (madeW u).rlo + 4) - 2) ((madeW u).slo + pickN t ((madeW u).shi - (madeW u).slo + 4) - 2) (by first | omega | assumption | (rw [keysN_len]; omega) | (simp only [List.length_drop, List.length_take, List.length_set, keysN_len]; omega)) (by first | omega | assumption | (simp; done) | (simp only [List.length_drop, List.length_take, List.length_append]; omega))) (fun _ _ => rfl) (fun ρ M hM => (ReadsC (Has.arg 0 rfl) (ReadsC (row_slc' (e := eStr) (xs := (keysN 10)) (fun _ => rfl) (by first | rfl | simp [keysN_len]) (by first | rfl | exact bytesC_flat _) (Has.fromM 0 (hM 0 rfl))) (ReadsC (Has.appR (row_slc' (e := proxyL) (xs := (madeL u)) (fun _ => rfl) (rfl) (rfl) (Has.own 2 rfl))) Reads0)))) ?_
    refine DG.rd rfl rfl rfl (fun _ _ => rd_move (v := .bool _) rfl) ?_
    refine DG.rd rfl rfl rfl (fun _ _ => rd_b (b := true) (rd_eqb Tryd.under4 rfl rfl) (by first | (rw [M.valid, beq_iff_eq, decide_eq_decide]; omega) | (rw [M.valid, decide_eq_true (by omega)]; rfl) | (rw [M.valid, decide_eq_false (by omega)]; simp_all; done) | (rw [M.valid, decide_eq_false (by omega), decide_eq_false (by omega)]; rfl) | (rw [M.valid, decide_eq_true (by omega), decide_eq_true (by omega)]; rfl))) ?_
    refine DG.rd rfl rfl rfl (fun _ _ => rd_move (v := .bool _) rfl) ?_
    refine DG.fnxg rfl rfl rfl (fun _ _ => rfl) Tryd.enters18 (c_ref15_Keys) (fun _ _ => rfl) Reads0 ?_
    refine DG.rdg rfl rfl rfl (fun _ _ => rfl) (fun _ _ => rd_load_agg (cs := #[.int _ _, .int _ _, .int _ _, .int _ _, .int _ _, .int _ _, .int _ _, .int _ _, .string _]) Tryd.agg31 rfl (Has.own 1 rfl) rfl rfl) ?_
    refine DG.rdg rfl rfl rfl (fun _ _ => rfl) (fun _ _ => rd_move (v := .slice _ _ _) rfl) ?_
    refine DG.rdg rfl rfl rfl (fun _ _ => rfl) (fun _ _ => rd_fieldAddr Tryd.field31_2 rfl) ?_
    refine DG.rdg rfl rfl rfl (fun _ _ => rfl) (fun _ _ => rd_fieldAddr Tryd.field28_0 rfl) ?_
    refine DG.rdg rfl rfl rfl (fun _ _ => rfl) (fun _ _ => rd_load (v := .int _ _) Tryd.one3 rfl (Has.own 1 rfl) rfl) ?_
    refine DG.rdg rfl rfl rfl (fun _ _ => rfl) (fun _ _ => rd_fieldAddr Tryd.field31_5 rfl) ?_
    refine DG.rdg rfl rfl rfl (fun _ _ => rfl) (fun _ _ => rd_fieldAddr Tryd.field29_1 rfl) ?_
    refine DG.rdg rfl rfl rfl (fun _ _ => rfl) (fun _ _ => rd_load (v := .int _ _) Tryd.one3 rfl (Has.own 1 rfl) rfl) ?_
    refine DG.rdg rfl rfl rfl (fun _ _ => rfl) (fun _ _ => rd_sub rfl rfl (w64 (by omega) (by omega))) ?_
    refine DG.done rfl (by decide) rfl (fun gh23 => ?_)
    refine TO.guard_true (s := 141) rfl rfl ?_
    refine TO.fn Tryd.enters17 (c_wish_Valid _ _ _ (keysN 10) (by first | rfl | simp | omega) (madeW u) _ _ _ (madeL u) (by first | rfl | simp | omega) ((madeW u).rlo) ((madeW u).shi - 1) (by first | omega | assumption | (rw [keysN_len]; omega) | (simp only [List.length_drop, List.length_take, List.length_set, keysN_len]; omega)) (by first | omega | assumption | (simp; done) | (simp only [List.length_drop, List.length_take, List.length_append]; omega))) rfl (ReadsC (Has.arg 0 rfl) (ReadsC (row_slc' (e := eStr) (xs := (keysN 10)) (fun _ => rfl) (by first | rfl | omega | simp) (rfl) (Has.own 1 rfl)) (ReadsC (row_slc' (e := proxyL) (xs := (madeL u)) (fun _ => rfl) (rfl) (rfl) (Has.own 4 rfl)) Reads0))) ?_
    refine TO.rd rfl rfl (rd_pick_true (v := .bool _) rfl rfl) ?_
    refine TO.rd rfl rfl (rd_assign (v := .bool _) rfl) ?_
    refine TO.nil ?_
    refine TQ.then_normal ?_
    refine T.ret ?_
    refine TQ.value ?_ (res1 Tryd.results3 (Res.tmp (v := .bool _) rfl)) _ (.inl rfl)
    exact congrArg Value.bool (by rw [M.valid]; exact (decide_eq_true (by omega)).symm)
  try simp only [decide_eq_true_eq, decide_eq_false_iff_not, Bool.not_eq_true', Bool.not_eq_false', Bool.not_eq_eq_eq_not, Bool.not_true, Bool.not_false, beq_iff_eq, beq_eq_false_iff_ne, bne_iff_ne, bne_eq_false_iff_eq, ne_eq, Int.not_lt, Int.not_le, Decidable.not_not] at h13
  refine TO.guard_true (s := 119) rfl rfl ?_
  refine TO.rd rfl rfl (rd_fieldAddr Tryd.field31_5 rfl) ?_
  refine TO.guard_true (s := 119) rfl rfl ?_
  refine TO.rd rfl rfl (rd_fieldAddr Tryd.field29_0 rfl) ?_
  refine TO.guard_true (s := 119) rfl rfl ?_
  refine TO.rd rfl rfl (rd_load (v := .int _ _) Tryd.one3 rfl (Has.own 1 rfl) rfl) ?_
  refine TO.guard_true (s := 119) rfl rfl ?_
  refine TO.rd rfl rfl (rd_move (v := .int _ _) rfl) ?_
  refine TO.guard_true (s := 119) rfl rfl ?_
  refine TO.rd rfl rfl (rd_leq rfl rfl) ?_
  refine TO.rd rfl rfl (rd_pick_true (v := .bool _) rfl rfl) ?_
  refine TO.rd rfl rfl (rd_move (v := .bool _) rfl) ?_
  refine TO.decide_ft (s := 126) rfl (fun h14 => ?_) (fun h14 => ?_)
  · try simp only [decide_eq_true_eq, decide_eq_false_iff_not, Bool.not_eq_true', Bool.not_eq_false', Bool.not_eq_eq_eq_not, Bool.not_true, Bool.not_false, beq_iff_eq, beq_eq_false_iff_ne, bne_iff_ne, bne_eq_false_iff_eq, ne_eq, Int.not_lt, Int.not_le, Decidable.not_not] at h14
    refine TO.guard_false (s := 126) (b' := false) rfl rfl nofun ?_
    refine TO.guard_false (s := 126) (b' := false) rfl rfl nofun ?_
    refine TO.guard_false (s := 126) (b' := false) rfl rfl nofun ?_
    refine TO.guard_false (s := 126) (b' := false) rfl rfl nofun ?_
    refine TO.guard_false (s := 126) (b' := false) rfl rfl nofun ?_
    refine TO.rd rfl rfl (rd_pick_false (v := .bool _) rfl rfl) ?_
    refine TO.rd rfl rfl (rd_assign (v := .bool _) rfl) ?_
    refine TO.nil ?_
    refine TQ.then_normal ?_
    refine T.seq ?_
    refine T.drawg Tryd.mixes 19 [(133, 0), (134, 1), (135, 2), (136, 3), (137, 4), (138, 5), (139, 6), (140, 7), (141, 8), (142, 9), (143, 10), (144, 11), (145, 12), (146, 13), (147, 14), (148, 15), (149, 16), (150, 17), (151, 18)] [0, 0, 0, 0, 0, 31, 0, 127, 255, 511, 511, 511, 511, 4607, 12799, 511, 33279, 98815, 229887, 524287, 1048575, 2097151] [0, 9] (by kernel_rfl) ?_
    refine DG.fnx rfl rfl Tryd.enters18 (c_ref15_Keys) (fun _ _ => rfl) Reads0 ?_
    refine DG.rd rfl rfl rfl (fun _ _ => rd_load_agg (cs := #[.int _ _, .int _ _, .int _ _, .int _ _, .int _ _, .int _ _, .int _ _, .int _ _, .string _]) Tryd.agg31 rfl (Has.own 1 rfl) rfl rfl) ?_
    refine DG.rd rfl rfl rfl (fun _ _ => rd_move (v := .slice _ _ _) rfl) ?_
    refine DG.rd rfl rfl rfl (fun _ _ => rd_move (v := .int _ _) rfl) ?_
    refine DG.rd rfl rfl rfl (fun _ _ => rd_move (v := .int _ _) rfl) ?_
    refine DG.fnp rfl rfl Tryd.enters17 (fun ρ => c_wish_Valid (ρ 0).1 (ρ 0).2 10 (keysN 10) (by first | rfl | simp [keysN_len]) (madeW u) _ _ _ (madeL u) (by first | rfl | simp | omega) ((madeW u).rlo + pickN nu ((madeW u).rhi - (madeW u).rlo + 4) - 2) ((madeW u).slo + pickN t ((madeW u).shi - (madeW u).slo + 4) - 2) (by first | omega | assumption | (rw [keysN_len]; omega) | (simp only [List.length_drop, List.length_take, List.length_set, keysN_len]; omega)) (by first | omega | assumption | (simp; done) | (simp only [List.length_drop, List.length_take, List.length_append]; omega))) (fun _ _ => rfl) (fun ρ M hM => (ReadsC (Has.arg 0 rfl) (ReadsC (row_slc' (e := eStr) (xs := (keysN 10)) (fun _ => rfl) (by first | rfl | simp [keysN_len]) (by first | rfl | exact bytesC_flat _) (Has.fromM 0 (hM 0 rfl))) (ReadsC (Has.appR (row_slc' (e := proxyL) (xs := (madeL u)) (fun _ => rfl) (rfl) (rfl) (Has.own 2 rfl))) Reads0)))) ?_
    refine DG.rd rfl rfl rfl (fun _ _ => rd_move (v := .bool _) rfl) ?_
    refine DG.rd rfl rfl rfl (fun _ _ => rd_b (b := true) (rd_eqb Tryd.under4 rfl rfl) (by first | (rw [M.valid, beq_iff_eq, decide_eq_decide]; omega) | (rw [M.valid, decide_eq_true (by omega)]; rfl) | (rw [M.valid, decide_eq_false (by omega)]; simp_all; done) | (rw [M.valid, decide_eq_false (by omega), decide_eq_false (by omega)]; rfl) | (rw [M.valid, decide_eq_true (by omega), decide_eq_true (by omega)]; rfl))) ?_
    refine DG.rd rfl rfl rfl (fun _ _ => rd_move (v := .bool _) rfl) ?_
    refine DG.fnxg rfl rfl rfl (fun _ _ => rfl) Tryd.enters18 (c_ref15_Keys) (fun _ _ => rfl) Reads0 ?_
    refine DG.rdg rfl rfl rfl (fun _ _ => rfl) (fun _ _ => rd_load_agg (cs := #[.int _ _, .int _ _, .int _ _, .int _ _, .int _ _, .int _ _, .int _ _, .int _ _, .string _]) Tryd.agg31 rfl (Has.own 1 rfl) rfl rfl) ?_
    refine DG.rdg rfl rfl rfl (fun _ _ => rfl) (fun _ _ => rd_move (v := .slice _ _ _) rfl) ?_
    refine DG.rdg rfl rfl rfl (fun _ _ => rfl) (fun _ _ => rd_fieldAddr Tryd.field31_2 rfl) ?_
    refine DG.rdg rfl rfl rfl (fun _ _ => rfl) (fun _ _ => rd_fieldAddr Tryd.field28_0 rfl) ?_
    refine DG.rdg rfl rfl rfl (fun _ _ => rfl) (fun _ _ => rd_load (v := .int _ _) Tryd.one3 rfl (Has.own 1 rfl) rfl) ?_
    refine DG.rdg rfl rfl rfl (fun _ _ => rfl) (fun _ _ => rd_fieldAddr Tryd.field31_5 rfl) ?_
    refine DG.rdg rfl rfl rfl (fun _ _ => rfl) (fun _ _ => rd_fieldAddr Tryd.field29_1 rfl) ?_
    refine DG.rdg rfl rfl rfl (fun _ _ => rfl) (fun _ _ => rd_load (v := .int _ _) Tryd.one3 rfl (Has.own 1 rfl) rfl) ?_
    refine DG.rdg rfl rfl rfl (fun _ _ => rfl) (fun _ _ => rd_sub rfl rfl (w64 (by omega) (by omega))) ?_
    refine DG.done rfl (by decide) rfl (fun gh20 => ?_)
    refine TO.guard_true (s := 141) rfl rfl ?_
    refine TO.fn Tryd.enters17 (c_wish_Valid _ _ _ (keysN 10) (by first | rfl | simp | omega) (madeW u) _ _ _ (madeL u) (by first | rfl | simp | omega) ((madeW u).rlo) ((madeW u).shi - 1) (by first | omega | assumption | (rw [keysN_len]; omega) | (simp only [List.length_drop, List.length_take, List.length_set, keysN_len]; omega)) (by first | omega | assumption | (simp; done) | (simp only [List.length_drop, List.length_take, List.length_append]; omega))) rfl (ReadsC (Has.arg 0 rfl) (ReadsC (row_slc' (e := eStr) (xs := (keysN 10)) (fun _ => rfl) (by first | rfl | omega | simp) (rfl) (Has.own 1 rfl)) (ReadsC (row_slc' (e := proxyL) (xs := (madeL u)) (fun _ => rfl) (rfl) (rfl) (Has.own 4 rfl)) Reads0))) ?_
    refine TO.rd rfl rfl (rd_pick_true (v := .bool _) rfl rfl) ?_
    refine TO.rd rfl rfl (rd_assign (v := .bool _) rfl) ?_
    refine TO.nil ?_
    refine TQ.then_normal ?_
    refine T.ret ?_
    refine TQ.value ?_ (res1 Tryd.results3 (Res.tmp (v := .bool _) rfl)) _ (.inl rfl)
    exact congrArg Value.bool (by rw [M.valid]; exact (decide_eq_true (by omega)).symm)
  try simp only [decide_eq_true_eq, decide_eq_false_iff_not, Bool.not_eq_true', Bool.not_eq_false', Bool.not_eq_eq_eq_not, Bool.not_true, Bool.not_false, beq_iff_eq, beq_eq_false_iff_ne, bne_iff_ne, bne_eq_false_iff_eq, ne_eq, Int.not_lt, Int.not_le, Decidable.not_not] at h14
  refine TO.guard_true (s := 126) rfl rfl ?_
  refine TO.rd rfl rfl (rd_move (v := .int _ _) rfl) ?_
  refine TO.guard_true (s := 126) rfl rfl ?_
  refine TO.rd rfl rfl (rd_fieldAddr Tryd.field31_5 rfl) ?_
  refine TO.guard_true (s := 126) rfl rfl ?_
  refine TO.rd rfl rfl (rd_fieldAddr Tryd.field29_1 rfl) ?_
  refine TO.guard_true (s := 126) rfl rfl ?_
  refine TO.rd rfl rfl (rd_load (v := .int _ _) Tryd.one3 rfl (Has.own 1 rfl) rfl) ?_
  refine TO.guard_true (s := 126) rfl rfl ?_
  refine TO.rd rfl rfl (rd_lss rfl rfl) ?_
  refine TO.rd rfl rfl (rd_pick_true (v := .bool _) rfl rfl) ?_
  refine TO.rd rfl rfl (rd_assign (v := .bool _) rfl) ?_
  refine TO.nil ?_
  refine TQ.then_normal ?_
  refine T.seq ?_
  refine T.drawg Tryd.mixes 19 [(133, 0), (134, 1), (135, 2), (136, 3), (137, 4), (138, 5), (139, 6), (140, 7), (141, 8), (142, 9), (143, 10), (144, 11), (145, 12), (146, 13), (147, 14), (148, 15), (149, 16), (150, 17), (151, 18)] [0, 0, 0, 0, 0, 31, 0, 127, 255, 511, 511, 511, 511, 4607, 12799, 511, 33279, 98815, 229887, 524287, 1048575, 2097151] [0, 9] (by kernel_rfl) ?_
  refine DG.fnx rfl rfl Tryd.enters18 (c_ref15_Keys) (fun _ _ => rfl) Reads0 ?_
  refine DG.rd rfl rfl rfl (fun _ _ => rd_load_agg (cs := #[.int _ _, .int _ _, .int _ _, .int _ _, .int _ _, .int _ _, .int _ _, .int _ _, .string _]) Tryd.agg31 rfl (Has.own 1 rfl) rfl rfl) ?_
  refine DG.rd rfl rfl rfl (fun _ _ => rd_move (v := .slice _ _ _) rfl) ?_
  refine DG.rd rfl rfl rfl (fun _ _ => rd_move (v := .int _ _) rfl) ?_
  refine DG.rd rfl rfl rfl (fun _ _ => rd_move (v := .int _ _) rfl) ?_
  refine DG.fnp rfl rfl Tryd.enters17 (fun ρ => c_wish_Valid (ρ 0).1 (ρ 0).2 10 (keysN 10) (by first | rfl | simp [keysN_len]) (madeW u) _ _ _ (madeL u) (by first | rfl | simp | omega) ((madeW u).rlo + pickN nu ((madeW u).rhi - (madeW u).rlo + 4) - 2) ((madeW u).slo + pickN t ((madeW u).shi - (madeW u).slo + 4) - 2) (by first | omega | assumption | (rw [keysN_len]; omega) | (simp only [List.length_drop, List.length_take, List.length_set, keysN_len]; omega)) (by first | omega | assumption | (simp; done) | (simp only [List.length_drop, List.length_take, List.length_append]; omega))) (fun _ _ => rfl) (fun ρ M hM => (ReadsC (Has.arg 0 rfl) (ReadsC (row_slc' (e := eStr) (xs := (keysN 10)) (fun _ => rfl) (by first | rfl | simp [keysN_len]) (by first | rfl | exact bytesC_flat _) (Has.fromM 0 (hM 0 rfl))) (ReadsC (Has.appR (row_slc' (e := proxyL) (xs := (madeL u)) (fun _ => rfl) (rfl) (rfl) (Has.own 2 rfl))) Reads0)))) ?_
  refine DG.rd rfl rfl rfl (fun _ _ => rd_move (v := .bool _) rfl) ?_
  refine DG.rd rfl rfl rfl (fun _ _ => rd_b (b := true) (rd_eqb Tryd.under4 rfl rfl) (by first | (rw [M.valid, beq_iff_eq, decide_eq_decide]; omega) | (rw [M.valid, decide_eq_true (by omega)]; rfl) | (rw [M.valid, decide_eq_false (by omega)]; simp_all; done) | (rw [M.valid, decide_eq_false (by omega), decide_eq_false (by omega)]; rfl) | (rw [M.valid, decide_eq_true (by omega), decide_eq_true (by omega)]; rfl))) ?_
  refine DG.rd rfl rfl rfl (fun _ _ => rd_move (v := .bool _) rfl) ?_
  refine DG.fnxg rfl rfl rfl (fun _ _ => rfl) Tryd.enters18 (c_ref15_Keys) (fun _ _ => rfl) Reads0 ?_
  refine DG.rdg rfl rfl rfl (fun _ _ => rfl) (fun _ _ => rd_load_agg (cs := #[.int _ _, .int _ _, .int _ _, .int _ _, .int _ _, .int _ _, .int _ _, .int _ _, .string _]) Tryd.agg31 rfl (Has.own 1 rfl) rfl rfl) ?_
  refine DG.rdg rfl rfl rfl (fun _ _ => rfl) (fun _ _ => rd_move (v := .slice _ _ _) rfl) ?_
  refine DG.rdg rfl rfl rfl (fun _ _ => rfl) (fun _ _ => rd_fieldAddr Tryd.field31_2 rfl) ?_
  refine DG.rdg rfl rfl rfl (fun _ _ => rfl) (fun _ _ => rd_fieldAddr Tryd.field28_0 rfl) ?_
  refine DG.rdg rfl rfl rfl (fun _ _ => rfl) (fun _ _ => rd_load (v := .int _ _) Tryd.one3 rfl (Has.own 1 rfl) rfl) ?_
  refine DG.rdg rfl rfl rfl (fun _ _ => rfl) (fun _ _ => rd_fieldAddr Tryd.field31_5 rfl) ?_
  refine DG.rdg rfl rfl rfl (fun _ _ => rfl) (fun _ _ => rd_fieldAddr Tryd.field29_1 rfl) ?_
  refine DG.rdg rfl rfl rfl (fun _ _ => rfl) (fun _ _ => rd_load (v := .int _ _) Tryd.one3 rfl (Has.own 1 rfl) rfl) ?_
  refine DG.rdg rfl rfl rfl (fun _ _ => rfl) (fun _ _ => rd_sub rfl rfl (w64 (by omega) (by omega))) ?_
  refine DG.done rfl (by decide) rfl (fun gh17 => ?_)
  refine TO.guard_true (s := 141) rfl rfl ?_
  refine TO.fn Tryd.enters17 (c_wish_Valid _ _ _ (keysN 10) (by first | rfl | simp | omega) (madeW u) _ _ _ (madeL u) (by first | rfl | simp | omega) ((madeW u).rlo) ((madeW u).shi - 1) (by first | omega | assumption | (rw [keysN_len]; omega) | (simp only [List.length_drop, List.length_take, List.length_set, keysN_len]; omega)) (by first | omega | assumption | (simp; done) | (simp only [List.length_drop, List.length_take, List.length_append]; omega))) rfl (ReadsC (Has.arg 0 rfl) (ReadsC (row_slc' (e := eStr) (xs := (keysN 10)) (fun _ => rfl) (by first | rfl | omega | simp) (rfl) (Has.own 1 rfl)) (ReadsC (row_slc' (e := proxyL) (xs := (madeL u)) (fun _ => rfl) (rfl) (rfl) (Has.own 4 rfl)) Reads0))) ?_
  refine TO.rd rfl rfl (rd_pick_true (v := .bool _) rfl rfl) ?_
  refine TO.rd rfl rfl (rd_assign (v := .bool _) rfl) ?_
  refine TO.nil ?_
  refine TQ.then_normal ?_
  refine T.ret ?_
  refine TQ.value ?_ (res1 Tryd.results3 (Res.tmp (v := .bool _) rfl)) _ (.inl rfl)
  exact congrArg Value.bool (by rw [M.valid]; exact (decide_eq_true (by omega)).symm)
end Go.Proofs
end
section
/- WishSigned: for every input the law returns true and the arguments read as they did (the tied card of the statement). Conditions: none beyond the card's own. -/
set_option linter.unusedVariables false
set_option linter.unusedSimpArgs false
set_option maxRecDepth 100000
namespace Go.Proofs.YtlcbpicpociipaaDoor
open Go Go.TL Go.ChangeShapes Go.WideShapes Go.RowKit
theorem wishSigned_lifted (os : Os) (started : os.Started) (H : Type) (enc : TypeId × Value → H) : ReturnsInHanded {} Tryd.checked os 3 .any (fun w args => (Rows.wishSignedSpec.pre enc Tryd.prog Tryd.f3 [] false w args ∧ laidMetH Tryd.prog laidC w) ∧ sizedMet enc Tryd.prog Tryd.f3 (OpenSpec.ofChange Rows.wishSignedSpec) false w args) (Rows.wishSignedSpec.post enc Tryd.prog Tryd.f3 false true false false) := by
  refine returns_law (C := Tryd.checked) (k := 3) Tryd.own started (by kernel_rfl) Tryd.func3 Tryd.laidOut
    (ChangeSpec.witness_at (enc := enc) (C := Tryd.checked) (os := os) (X := fun w _ => laidMetH Tryd.prog laidC w) false (World.laidAll Tryd.prog os laidC) #[.agg #[.int .i64 0, .int .i64 0, .int .i64 0, .int .i64 0, .int .i64 0, .int .i64 0, .int .i64 0, .slice none 0 0], .int .i64 0, .int .i64 0] 8 (World.laidAll_os _ _ _) (by kernel_rfl) (by kernel_rfl) (by kernel_rfl) (by kernel_rfl) (by kernel_rfl) (by rw [MakeChecks.laidMetH_plain _ _ _ (by kernel_rfl)]; exact laidMet_laidAll _ (by kernel_rfl) (by kernel_rfl)))
    rfl Tryd.tyB (by kernel_rfl) rfl (by kernel_rfl) (fun ds h => ?_) ?_
  · match ds, h with
    | [d0, d1, d2], _ => rfl
  · intro W base args ds p hval hA hL hsh
    have hp : Tryd.f3.params = #[25, 3, 3] := Tryd.params3
    rw [hp] at hval hA
    obtain ⟨hlen, hget⟩ := args_of (params := [25, 3, 3]) (fun j t v h1 h2 => hval j t v (by simpa using h1) h2) hA
    obtain ⟨v0, v1, v2, hargs⟩ : ∃ v0 v1 v2, args.toList = [v0, v1, v2] := by
      match args.toList, hlen with
      | [v0, v1, v2], _ => exact ⟨v0, v1, v2, rfl⟩
    rw [hargs] at hget
    obtain rfl : args = #[v0, v1, v2] := by rw [show args = args.toList.toArray from rfl, hargs]
    obtain ⟨u0, A0, m0, p0, rfl, hm0, hx0, hc0, hs0⟩ := Arg.nums Tryd.numTy (hget 0 25 v0 rfl rfl)
    obtain ⟨n1, rfl, h1⟩ := Arg.i64 Tryd.tyI (hget 1 3 v1 rfl rfl)
    obtain ⟨n2, rfl, h2⟩ := Arg.i64 Tryd.tyI (hget 2 3 v2 rfl rfl)
    refine ⟨_, c_law15_WishSigned u0 A0 m0 p0 hm0 hx0 hc0 n1 n2 h1.1 h1.2 h2.1 h2.2, fun X hX => ?_⟩
    simp only [List.mem_cons, List.not_mem_nil, or_false] at hX
    rcases hX with rfl | rfl
    · exact glob_round hL hsh
    · exact hs0
theorem wishSigned_row : Rows.WishSignedSaid :=
  OpenClaim.holds_of_wide 3 Tryd.f3 rfl rfl rfl rfl rfl rfl rfl ⟨rfl, rfl, rfl, rfl, rfl⟩ rfl rfl rfl rfl rfl (by kernel_rfl) Tryd.func3 (by kernel_rfl)
    (of_decide_eq_true (by kernel_rfl)) (by unfold Func.isWrapper; rw [if_neg (of_decide_eq_false (by kernel_rfl))]; exact ⟨rfl, rfl⟩)
    (fun os started H enc _ => wishSigned_lifted os started H enc)
theorem wishSigned_card : Rows.WishSignedCardSaid :=
  Claim7.holds_tied_plain_at .later [] [.data] true (true, "1955aadbdfd000943dcbd3e0cfec305833d08dd00e3708b93b07653100246b85") true wishSigned_row (fun _ h => by cases h) (by kernel_rfl) (fun _ h => by cases h) wishSigned_row_tie rfl ⟨rfl, rfl⟩ (by kernel_rfl) rfl
    (fun f fn hf hfn => by
      obtain rfl : f = 3 := Option.some.inj ((show Tryd.prog.funcNamed "dialtone/dialtonelaw15.WishSigned" = some 3 by kernel_rfl).symm.trans hf) |>.symm
      obtain rfl : fn = Tryd.f3 := (Option.some.inj (Tryd.func3.symm.trans hfn)).symm
      exact ⟨by kernel_rfl, fun j t ht => by
        rw [Tryd.params3] at ht
        have hm : t ∈ [25, 3, 3] := by simpa using Array.mem_of_getElem? ht
        have hall : ([25, 3, 3].all fun u => !Tryd.prog.wantsStandIn u) = true := by kernel_rfl
        exact (show Tryd.prog.wantsStandIn t = false by simpa using List.all_eq_true.1 hall t hm)⟩)
    (by kernel_rfl)
#print axioms wishSigned_card
end Go.Proofs.YtlcbpicpociipaaDoor
end
