/- The tied card of WishBinds: whatever the input, the law returns true, and each argument reads behind the call as it did. No condition beyond the card's own. -/
import Derived.Test.YtlcbpicpociipaaGreatDoorB4
section
set_option linter.unusedVariables false
set_option linter.unusedSimpArgs false
set_option maxRecDepth 100000
set_option maxHeartbeats 800000
namespace Go.Proofs
open Go.TL
attribute [local irreducible] Go.TL.T Go.TL.TO Go.TL.TQ
theorem c_ref15_BentWish (w : Wish) (how n : Int) (hr0 : 0 ≤ w.rhi) (hr1 : w.rhi ≤ 1000000000000) (how0 : -9223372036854775808 ≤ how) (how1 : how ≤ 9223372036854775807) : Cv Tryz.prog 8 #[wishV w, .int .i64 how, .int .i64 n] [] (.tuple #[wishV (bendW w how n), .bool (!(decide (bendW w how n = w)))]) := by
 have q1 := pickN_lo (c := how) (n := 9) (by decide)
 have q2 := pickN_hi (c := how) (n := 9) (by decide)
 refine Ctr.intro Tryz.func8 rfl Tryz.ntmps8 (Nat.le_of_ble_eq_true rfl) fun S0 w0 => ?_
 refine T.seq (T.region ?_)
 refine TO.box (v := .agg #[.int _ _, .int _ _, .int _ _, .int _ _, .int _ _, .int _ _, .int _ _, .int _ _, .string _]) rfl (fun b1 => ?_)
 refine TO.alloc Tryz.zero30 (fun b2 => ?_)
 refine rdx (rd_assign (v := .bool _) rfl) ?_
 refine TO.nil (TQ.then_normal (T.seq (T.region ?_)))
 refine rdx (rd_load_agg (cs := #[.int _ _, .int _ _, .int _ _, .int _ _, .int _ _, .int _ _, .int _ _, .int _ _, .string _]) Tryz.agg30 rfl (Has.own 1 rfl) rfl rfl) ?_
 refine TO.alloc Tryz.zero30 (fun b3 => ?_)
 refine TO.store0 (cells' := #[.int _ _, .int _ _, .int _ _, .int _ _, .int _ _, .int _ _, .int _ _, .int _ _, .string _]) Tryz.size30 rfl (v := .agg #[.int _ _, .int _ _, .int _ _, .int _ _, .int _ _, .int _ _, .int _ _, .int _ _, .string _]) rfl rfl rfl (Nat.le_of_ble_eq_true rfl) rfl ?_
 refine TO.nil (TQ.then_normal (T.seq (T.seq (T.region ?_))))
 refine rdx (rd_move (v := .int _ _) rfl) ?_
 refine TO.fn Tryz.enters40 (c_ref15_pick _ _ (by omega) (by omega) (by omega) (by omega)) rfl Reads0 ?_
 refine TO.nil (TQ.then_normal (T.block (T.seq (T.region ?_))))
 refine rdx (rd_eql rfl rfl) ?_
 refine rdx (rd_assign (v := .bool _) rfl) ?_
 refine TO.nil (TQ.then_normal ?_)
 refine T.cond rfl (fun h4 => ?_) (fun h4 => ?_)
 ·try simp only [nrm] at h4
  refine T.region ?_
  refine rdx (rd_move (v := .int _ _) rfl) ?_
  refine rdx (rd_fieldAddr Tryz.field30_0 rfl) ?_
  refine TO.store0 (cells' := #[.int _ _, .int _ _, .int _ _, .int _ _, .int _ _, .int _ _, .int _ _, .int _ _, .string _]) Tryz.size3 rfl (v := .int _ _) rfl rfl rfl (Nat.le_of_ble_eq_true rfl) rfl ?_
  refine TO.nil (TQ.block_normal (TQ.then_normal (T.seq ?_)))
  refine T.front1 ?_
  refine T.drawo Tryz.mixes 5 [(54, 0), (55, 1), (56, 2), (57, 3)] [0, 0, 0, 6, 1, 31] [] 4 (by kernel_rfl) ?_
  refine DX.rd rfl rfl rfl (fun _ _ => rd_load_agg (cs := #[.int _ _, .int _ _, .int _ _, .int _ _, .int _ _, .int _ _, .int _ _, .int _ _, .string _]) Tryz.agg30 rfl (Has.own 0 rfl) rfl rfl) ?_
  refine DX.rd rfl rfl rfl (fun _ _ => rd_load_agg (cs := #[.int _ _, .int _ _, .int _ _, .int _ _, .int _ _, .int _ _, .int _ _, .int _ _, .string _]) Tryz.agg30 rfl (Has.own 0 rfl) rfl rfl) ?_
  refine DX.rd rfl rfl rfl (fun _ _ => rd_load_agg (cs := #[.int _ _, .int _ _, .int _ _, .int _ _, .int _ _, .int _ _, .int _ _, .int _ _, .string _]) Tryz.agg30 rfl (Has.own 1 rfl) rfl rfl) ?_
  refine DX.rd rfl rfl rfl (fun _ _ => rd_new Tryz.eqty (p := ⟨n, w.holder, w.rlo, w.rhi, w.carrier, w.serial, w.slo, w.shi, w.sig⟩) (q := w) rfl rfl) ?_
  refine DX.sto (v := .agg #[.int _ _, .int _ _, .int _ _, .int _ _, .int _ _, .int _ _, .int _ _, .int _ _, .string _]) (cells' := #[.int _ _, .int _ _, .int _ _, .int _ _, .int _ _, .int _ _, .int _ _, .int _ _, .string _]) rfl rfl Tryz.size30 (fun _ _ => rfl) (fun _ _ => rfl) rfl rfl (Nat.le_of_ble_eq_true rfl) rfl ?_
  refine DX.done [] rfl rfl (by decide) rfl (fun gh5 => ?_)
  refine rdx (rd_assign (v := .bool _) rfl) ?_
  refine TO.nil (TQ.then_normal (T.ret ?_))
  refine TQ.value ?_ (res2 Tryz.results8 (Res.cells (cs := #[.int _ _, .int _ _, .int _ _, .int _ _, .int _ _, .int _ _, .int _ _, .int _ _, .string _]) Tryz.agg30 rfl (Has.own 0 rfl) rfl rfl) (Res.tmp (v := .bool _) rfl)) _ (.inl rfl)
  have hb : bendW w how n = ⟨n, w.holder, w.rlo, w.rhi, w.carrier, w.serial, w.slo, w.shi, w.sig⟩ := by rw [bendW, if_pos (by omega)]
  rw [hb]; rfl
 try simp only [nrm] at h4
 refine T.seq (T.region ?_)
 refine rdx (rd_eql rfl rfl) ?_
 refine rdx (rd_assign (v := .bool _) rfl) ?_
 refine TO.nil (TQ.then_normal ?_)
 refine T.cond rfl (fun h6 => ?_) (fun h6 => ?_)
 ·try simp only [nrm] at h6
  refine T.region ?_
  refine rdx (rd_move (v := .int _ _) rfl) ?_
  refine rdx (rd_fieldAddr Tryz.field30_1 rfl) ?_
  refine TO.store0 (cells' := #[.int _ _, .int _ _, .int _ _, .int _ _, .int _ _, .int _ _, .int _ _, .int _ _, .string _]) Tryz.size3 rfl (v := .int _ _) rfl rfl rfl (Nat.le_of_ble_eq_true rfl) rfl ?_
  refine TO.nil (TQ.block_normal (TQ.then_normal (T.seq ?_)))
  refine T.front1 ?_
  refine T.drawo Tryz.mixes 5 [(54, 0), (55, 1), (56, 2), (57, 3)] [0, 0, 0, 6, 1, 31] [] 4 (by kernel_rfl) ?_
  refine DX.rd rfl rfl rfl (fun _ _ => rd_load_agg (cs := #[.int _ _, .int _ _, .int _ _, .int _ _, .int _ _, .int _ _, .int _ _, .int _ _, .string _]) Tryz.agg30 rfl (Has.own 0 rfl) rfl rfl) ?_
  refine DX.rd rfl rfl rfl (fun _ _ => rd_load_agg (cs := #[.int _ _, .int _ _, .int _ _, .int _ _, .int _ _, .int _ _, .int _ _, .int _ _, .string _]) Tryz.agg30 rfl (Has.own 0 rfl) rfl rfl) ?_
  refine DX.rd rfl rfl rfl (fun _ _ => rd_load_agg (cs := #[.int _ _, .int _ _, .int _ _, .int _ _, .int _ _, .int _ _, .int _ _, .int _ _, .string _]) Tryz.agg30 rfl (Has.own 1 rfl) rfl rfl) ?_
  refine DX.rd rfl rfl rfl (fun _ _ => rd_new Tryz.eqty (p := ⟨w.signer, n, w.rlo, w.rhi, w.carrier, w.serial, w.slo, w.shi, w.sig⟩) (q := w) rfl rfl) ?_
  refine DX.sto (v := .agg #[.int _ _, .int _ _, .int _ _, .int _ _, .int _ _, .int _ _, .int _ _, .int _ _, .string _]) (cells' := #[.int _ _, .int _ _, .int _ _, .int _ _, .int _ _, .int _ _, .int _ _, .int _ _, .string _]) rfl rfl Tryz.size30 (fun _ _ => rfl) (fun _ _ => rfl) rfl rfl (Nat.le_of_ble_eq_true rfl) rfl ?_
  refine DX.done [] rfl rfl (by decide) rfl (fun gh7 => ?_)
  refine rdx (rd_assign (v := .bool _) rfl) ?_
  refine TO.nil (TQ.then_normal (T.ret ?_))
  refine TQ.value ?_ (res2 Tryz.results8 (Res.cells (cs := #[.int _ _, .int _ _, .int _ _, .int _ _, .int _ _, .int _ _, .int _ _, .int _ _, .string _]) Tryz.agg30 rfl (Has.own 0 rfl) rfl rfl) (Res.tmp (v := .bool _) rfl)) _ (.inl rfl)
  have hb : bendW w how n = ⟨w.signer, n, w.rlo, w.rhi, w.carrier, w.serial, w.slo, w.shi, w.sig⟩ := by rw [bendW, if_neg (by omega), if_pos (by omega)]
  rw [hb]; rfl
 try simp only [nrm] at h6
 refine T.seq (T.region ?_)
 refine rdx (rd_eql rfl rfl) ?_
 refine rdx (rd_assign (v := .bool _) rfl) ?_
 refine TO.nil (TQ.then_normal ?_)
 refine T.cond rfl (fun h8 => ?_) (fun h8 => ?_)
 ·try simp only [nrm] at h8
  refine T.region ?_
  refine rdx (rd_move (v := .int _ _) rfl) ?_
  refine rdx (rd_fieldAddr Tryz.field30_2 rfl) ?_
  refine rdx (rd_fieldAddr Tryz.field27_0 rfl) ?_
  refine TO.store0 (cells' := #[.int _ _, .int _ _, .int _ _, .int _ _, .int _ _, .int _ _, .int _ _, .int _ _, .string _]) Tryz.size3 rfl (v := .int _ _) rfl rfl rfl (Nat.le_of_ble_eq_true rfl) rfl ?_
  refine TO.nil (TQ.block_normal (TQ.then_normal (T.seq ?_)))
  refine T.front1 ?_
  refine T.drawo Tryz.mixes 5 [(54, 0), (55, 1), (56, 2), (57, 3)] [0, 0, 0, 6, 1, 31] [] 4 (by kernel_rfl) ?_
  refine DX.rd rfl rfl rfl (fun _ _ => rd_load_agg (cs := #[.int _ _, .int _ _, .int _ _, .int _ _, .int _ _, .int _ _, .int _ _, .int _ _, .string _]) Tryz.agg30 rfl (Has.own 0 rfl) rfl rfl) ?_
  refine DX.rd rfl rfl rfl (fun _ _ => rd_load_agg (cs := #[.int _ _, .int _ _, .int _ _, .int _ _, .int _ _, .int _ _, .int _ _, .int _ _, .string _]) Tryz.agg30 rfl (Has.own 0 rfl) rfl rfl) ?_
  refine DX.rd rfl rfl rfl (fun _ _ => rd_load_agg (cs := #[.int _ _, .int _ _, .int _ _, .int _ _, .int _ _, .int _ _, .int _ _, .int _ _, .string _]) Tryz.agg30 rfl (Has.own 1 rfl) rfl rfl) ?_
  refine DX.rd rfl rfl rfl (fun _ _ => rd_new Tryz.eqty (p := ⟨w.signer, w.holder, n, w.rhi, w.carrier, w.serial, w.slo, w.shi, w.sig⟩) (q := w) rfl rfl) ?_
  refine DX.sto (v := .agg #[.int _ _, .int _ _, .int _ _, .int _ _, .int _ _, .int _ _, .int _ _, .int _ _, .string _]) (cells' := #[.int _ _, .int _ _, .int _ _, .int _ _, .int _ _, .int _ _, .int _ _, .int _ _, .string _]) rfl rfl Tryz.size30 (fun _ _ => rfl) (fun _ _ => rfl) rfl rfl (Nat.le_of_ble_eq_true rfl) rfl ?_
  refine DX.done [] rfl rfl (by decide) rfl (fun gh9 => ?_)
  refine rdx (rd_assign (v := .bool _) rfl) ?_
  refine TO.nil (TQ.then_normal (T.ret ?_))
  refine TQ.value ?_ (res2 Tryz.results8 (Res.cells (cs := #[.int _ _, .int _ _, .int _ _, .int _ _, .int _ _, .int _ _, .int _ _, .int _ _, .string _]) Tryz.agg30 rfl (Has.own 0 rfl) rfl rfl) (Res.tmp (v := .bool _) rfl)) _ (.inl rfl)
  have hb : bendW w how n = ⟨w.signer, w.holder, n, w.rhi, w.carrier, w.serial, w.slo, w.shi, w.sig⟩ := by rw [bendW, if_neg (by omega), if_neg (by omega), if_pos (by omega)]
  rw [hb]; rfl
 try simp only [nrm] at h8
 refine T.seq (T.region ?_)
 refine rdx (rd_eql rfl rfl) ?_
 refine rdx (rd_assign (v := .bool _) rfl) ?_
 refine TO.nil (TQ.then_normal ?_)
 refine T.cond rfl (fun h10 => ?_) (fun h10 => ?_)
 ·try simp only [nrm] at h10
  refine T.region ?_
  refine rdx (rd_move (v := .int _ _) rfl) ?_
  refine rdx (rd_fieldAddr Tryz.field30_2 rfl) ?_
  refine rdx (rd_fieldAddr Tryz.field27_1 rfl) ?_
  refine TO.store0 (cells' := #[.int _ _, .int _ _, .int _ _, .int _ _, .int _ _, .int _ _, .int _ _, .int _ _, .string _]) Tryz.size3 rfl (v := .int _ _) rfl rfl rfl (Nat.le_of_ble_eq_true rfl) rfl ?_
  refine TO.nil (TQ.block_normal (TQ.then_normal (T.seq ?_)))
  refine T.front1 ?_
  refine T.drawo Tryz.mixes 5 [(54, 0), (55, 1), (56, 2), (57, 3)] [0, 0, 0, 6, 1, 31] [] 4 (by kernel_rfl) ?_
  refine DX.rd rfl rfl rfl (fun _ _ => rd_load_agg (cs := #[.int _ _, .int _ _, .int _ _, .int _ _, .int _ _, .int _ _, .int _ _, .int _ _, .string _]) Tryz.agg30 rfl (Has.own 0 rfl) rfl rfl) ?_
  refine DX.rd rfl rfl rfl (fun _ _ => rd_load_agg (cs := #[.int _ _, .int _ _, .int _ _, .int _ _, .int _ _, .int _ _, .int _ _, .int _ _, .string _]) Tryz.agg30 rfl (Has.own 0 rfl) rfl rfl) ?_
  refine DX.rd rfl rfl rfl (fun _ _ => rd_load_agg (cs := #[.int _ _, .int _ _, .int _ _, .int _ _, .int _ _, .int _ _, .int _ _, .int _ _, .string _]) Tryz.agg30 rfl (Has.own 1 rfl) rfl rfl) ?_
  refine DX.rd rfl rfl rfl (fun _ _ => rd_new Tryz.eqty (p := ⟨w.signer, w.holder, w.rlo, n, w.carrier, w.serial, w.slo, w.shi, w.sig⟩) (q := w) rfl rfl) ?_
  refine DX.sto (v := .agg #[.int _ _, .int _ _, .int _ _, .int _ _, .int _ _, .int _ _, .int _ _, .int _ _, .string _]) (cells' := #[.int _ _, .int _ _, .int _ _, .int _ _, .int _ _, .int _ _, .int _ _, .int _ _, .string _]) rfl rfl Tryz.size30 (fun _ _ => rfl) (fun _ _ => rfl) rfl rfl (Nat.le_of_ble_eq_true rfl) rfl ?_
  refine DX.done [] rfl rfl (by decide) rfl (fun gh11 => ?_)
  refine rdx (rd_assign (v := .bool _) rfl) ?_
  refine TO.nil (TQ.then_normal (T.ret ?_))
  refine TQ.value ?_ (res2 Tryz.results8 (Res.cells (cs := #[.int _ _, .int _ _, .int _ _, .int _ _, .int _ _, .int _ _, .int _ _, .int _ _, .string _]) Tryz.agg30 rfl (Has.own 0 rfl) rfl rfl) (Res.tmp (v := .bool _) rfl)) _ (.inl rfl)
  have hb : bendW w how n = ⟨w.signer, w.holder, w.rlo, n, w.carrier, w.serial, w.slo, w.shi, w.sig⟩ := by rw [bendW, if_neg (by omega), if_neg (by omega), if_neg (by omega), if_pos (by omega)]
  rw [hb]; rfl
 try simp only [nrm] at h10
 refine T.seq (T.region ?_)
 refine rdx (rd_eql rfl rfl) ?_
 refine rdx (rd_assign (v := .bool _) rfl) ?_
 refine TO.nil (TQ.then_normal ?_)
 refine T.cond rfl (fun h12 => ?_) (fun h12 => ?_)
 ·try simp only [nrm] at h12
  refine T.region ?_
  refine rdx (rd_move (v := .int _ _) rfl) ?_
  refine rdx (rd_fieldAddr Tryz.field30_3 rfl) ?_
  refine TO.store0 (cells' := #[.int _ _, .int _ _, .int _ _, .int _ _, .int _ _, .int _ _, .int _ _, .int _ _, .string _]) Tryz.size3 rfl (v := .int _ _) rfl rfl rfl (Nat.le_of_ble_eq_true rfl) rfl ?_
  refine TO.nil (TQ.block_normal (TQ.then_normal (T.seq ?_)))
  refine T.front1 ?_
  refine T.drawo Tryz.mixes 5 [(54, 0), (55, 1), (56, 2), (57, 3)] [0, 0, 0, 6, 1, 31] [] 4 (by kernel_rfl) ?_
  refine DX.rd rfl rfl rfl (fun _ _ => rd_load_agg (cs := #[.int _ _, .int _ _, .int _ _, .int _ _, .int _ _, .int _ _, .int _ _, .int _ _, .string _]) Tryz.agg30 rfl (Has.own 0 rfl) rfl rfl) ?_
  refine DX.rd rfl rfl rfl (fun _ _ => rd_load_agg (cs := #[.int _ _, .int _ _, .int _ _, .int _ _, .int _ _, .int _ _, .int _ _, .int _ _, .string _]) Tryz.agg30 rfl (Has.own 0 rfl) rfl rfl) ?_
  refine DX.rd rfl rfl rfl (fun _ _ => rd_load_agg (cs := #[.int _ _, .int _ _, .int _ _, .int _ _, .int _ _, .int _ _, .int _ _, .int _ _, .string _]) Tryz.agg30 rfl (Has.own 1 rfl) rfl rfl) ?_
  refine DX.rd rfl rfl rfl (fun _ _ => rd_new Tryz.eqty (p := ⟨w.signer, w.holder, w.rlo, w.rhi, n, w.serial, w.slo, w.shi, w.sig⟩) (q := w) rfl rfl) ?_
  refine DX.sto (v := .agg #[.int _ _, .int _ _, .int _ _, .int _ _, .int _ _, .int _ _, .int _ _, .int _ _, .string _]) (cells' := #[.int _ _, .int _ _, .int _ _, .int _ _, .int _ _, .int _ _, .int _ _, .int _ _, .string _]) rfl rfl Tryz.size30 (fun _ _ => rfl) (fun _ _ => rfl) rfl rfl (Nat.le_of_ble_eq_true rfl) rfl ?_
  refine DX.done [] rfl rfl (by decide) rfl (fun gh13 => ?_)
  refine rdx (rd_assign (v := .bool _) rfl) ?_
  refine TO.nil (TQ.then_normal (T.ret ?_))
  refine TQ.value ?_ (res2 Tryz.results8 (Res.cells (cs := #[.int _ _, .int _ _, .int _ _, .int _ _, .int _ _, .int _ _, .int _ _, .int _ _, .string _]) Tryz.agg30 rfl (Has.own 0 rfl) rfl rfl) (Res.tmp (v := .bool _) rfl)) _ (.inl rfl)
  have hb : bendW w how n = ⟨w.signer, w.holder, w.rlo, w.rhi, n, w.serial, w.slo, w.shi, w.sig⟩ := by rw [bendW, if_neg (by omega), if_neg (by omega), if_neg (by omega), if_neg (by omega), if_pos (by omega)]
  rw [hb]; rfl
 try simp only [nrm] at h12
 refine T.seq (T.region ?_)
 refine rdx (rd_eql rfl rfl) ?_
 refine rdx (rd_assign (v := .bool _) rfl) ?_
 refine TO.nil (TQ.then_normal ?_)
 refine T.cond rfl (fun h14 => ?_) (fun h14 => ?_)
 ·try simp only [nrm] at h14
  refine T.region ?_
  refine rdx (rd_move (v := .int _ _) rfl) ?_
  refine rdx (rd_fieldAddr Tryz.field30_4 rfl) ?_
  refine TO.store0 (cells' := #[.int _ _, .int _ _, .int _ _, .int _ _, .int _ _, .int _ _, .int _ _, .int _ _, .string _]) Tryz.size3 rfl (v := .int _ _) rfl rfl rfl (Nat.le_of_ble_eq_true rfl) rfl ?_
  refine TO.nil (TQ.block_normal (TQ.then_normal (T.seq ?_)))
  refine T.front1 ?_
  refine T.drawo Tryz.mixes 5 [(54, 0), (55, 1), (56, 2), (57, 3)] [0, 0, 0, 6, 1, 31] [] 4 (by kernel_rfl) ?_
  refine DX.rd rfl rfl rfl (fun _ _ => rd_load_agg (cs := #[.int _ _, .int _ _, .int _ _, .int _ _, .int _ _, .int _ _, .int _ _, .int _ _, .string _]) Tryz.agg30 rfl (Has.own 0 rfl) rfl rfl) ?_
  refine DX.rd rfl rfl rfl (fun _ _ => rd_load_agg (cs := #[.int _ _, .int _ _, .int _ _, .int _ _, .int _ _, .int _ _, .int _ _, .int _ _, .string _]) Tryz.agg30 rfl (Has.own 0 rfl) rfl rfl) ?_
  refine DX.rd rfl rfl rfl (fun _ _ => rd_load_agg (cs := #[.int _ _, .int _ _, .int _ _, .int _ _, .int _ _, .int _ _, .int _ _, .int _ _, .string _]) Tryz.agg30 rfl (Has.own 1 rfl) rfl rfl) ?_
  refine DX.rd rfl rfl rfl (fun _ _ => rd_new Tryz.eqty (p := ⟨w.signer, w.holder, w.rlo, w.rhi, w.carrier, n, w.slo, w.shi, w.sig⟩) (q := w) rfl rfl) ?_
  refine DX.sto (v := .agg #[.int _ _, .int _ _, .int _ _, .int _ _, .int _ _, .int _ _, .int _ _, .int _ _, .string _]) (cells' := #[.int _ _, .int _ _, .int _ _, .int _ _, .int _ _, .int _ _, .int _ _, .int _ _, .string _]) rfl rfl Tryz.size30 (fun _ _ => rfl) (fun _ _ => rfl) rfl rfl (Nat.le_of_ble_eq_true rfl) rfl ?_
  refine DX.done [] rfl rfl (by decide) rfl (fun gh15 => ?_)
  refine rdx (rd_assign (v := .bool _) rfl) ?_
  refine TO.nil (TQ.then_normal (T.ret ?_))
  refine TQ.value ?_ (res2 Tryz.results8 (Res.cells (cs := #[.int _ _, .int _ _, .int _ _, .int _ _, .int _ _, .int _ _, .int _ _, .int _ _, .string _]) Tryz.agg30 rfl (Has.own 0 rfl) rfl rfl) (Res.tmp (v := .bool _) rfl)) _ (.inl rfl)
  have hb : bendW w how n = ⟨w.signer, w.holder, w.rlo, w.rhi, w.carrier, n, w.slo, w.shi, w.sig⟩ := by rw [bendW, if_neg (by omega), if_neg (by omega), if_neg (by omega), if_neg (by omega), if_neg (by omega), if_pos (by omega)]
  rw [hb]; rfl
 try simp only [nrm] at h14
 refine T.seq (T.region ?_)
 refine rdx (rd_eql rfl rfl) ?_
 refine rdx (rd_assign (v := .bool _) rfl) ?_
 refine TO.nil (TQ.then_normal ?_)
 refine T.cond rfl (fun h16 => ?_) (fun h16 => ?_)
 ·try simp only [nrm] at h16
  refine T.region ?_
  refine rdx (rd_move (v := .int _ _) rfl) ?_
  refine rdx (rd_fieldAddr Tryz.field30_5 rfl) ?_
  refine rdx (rd_fieldAddr Tryz.field28_0 rfl) ?_
  refine TO.store0 (cells' := #[.int _ _, .int _ _, .int _ _, .int _ _, .int _ _, .int _ _, .int _ _, .int _ _, .string _]) Tryz.size3 rfl (v := .int _ _) rfl rfl rfl (Nat.le_of_ble_eq_true rfl) rfl ?_
  refine TO.nil (TQ.block_normal (TQ.then_normal (T.seq ?_)))
  refine T.front1 ?_
  refine T.drawo Tryz.mixes 5 [(54, 0), (55, 1), (56, 2), (57, 3)] [0, 0, 0, 6, 1, 31] [] 4 (by kernel_rfl) ?_
  refine DX.rd rfl rfl rfl (fun _ _ => rd_load_agg (cs := #[.int _ _, .int _ _, .int _ _, .int _ _, .int _ _, .int _ _, .int _ _, .int _ _, .string _]) Tryz.agg30 rfl (Has.own 0 rfl) rfl rfl) ?_
  refine DX.rd rfl rfl rfl (fun _ _ => rd_load_agg (cs := #[.int _ _, .int _ _, .int _ _, .int _ _, .int _ _, .int _ _, .int _ _, .int _ _, .string _]) Tryz.agg30 rfl (Has.own 0 rfl) rfl rfl) ?_
  refine DX.rd rfl rfl rfl (fun _ _ => rd_load_agg (cs := #[.int _ _, .int _ _, .int _ _, .int _ _, .int _ _, .int _ _, .int _ _, .int _ _, .string _]) Tryz.agg30 rfl (Has.own 1 rfl) rfl rfl) ?_
  refine DX.rd rfl rfl rfl (fun _ _ => rd_new Tryz.eqty (p := ⟨w.signer, w.holder, w.rlo, w.rhi, w.carrier, w.serial, n, w.shi, w.sig⟩) (q := w) rfl rfl) ?_
  refine DX.sto (v := .agg #[.int _ _, .int _ _, .int _ _, .int _ _, .int _ _, .int _ _, .int _ _, .int _ _, .string _]) (cells' := #[.int _ _, .int _ _, .int _ _, .int _ _, .int _ _, .int _ _, .int _ _, .int _ _, .string _]) rfl rfl Tryz.size30 (fun _ _ => rfl) (fun _ _ => rfl) rfl rfl (Nat.le_of_ble_eq_true rfl) rfl ?_
  refine DX.done [] rfl rfl (by decide) rfl (fun gh17 => ?_)
  refine rdx (rd_assign (v := .bool _) rfl) ?_
  refine TO.nil (TQ.then_normal (T.ret ?_))
  refine TQ.value ?_ (res2 Tryz.results8 (Res.cells (cs := #[.int _ _, .int _ _, .int _ _, .int _ _, .int _ _, .int _ _, .int _ _, .int _ _, .string _]) Tryz.agg30 rfl (Has.own 0 rfl) rfl rfl) (Res.tmp (v := .bool _) rfl)) _ (.inl rfl)
  have hb : bendW w how n = ⟨w.signer, w.holder, w.rlo, w.rhi, w.carrier, w.serial, n, w.shi, w.sig⟩ := by rw [bendW, if_neg (by omega), if_neg (by omega), if_neg (by omega), if_neg (by omega), if_neg (by omega), if_neg (by omega), if_pos (by omega)]
  rw [hb]; rfl
 try simp only [nrm] at h16
 refine T.seq (T.region ?_)
 refine rdx (rd_eql rfl rfl) ?_
 refine rdx (rd_assign (v := .bool _) rfl) ?_
 refine TO.nil (TQ.then_normal ?_)
 refine T.cond rfl (fun h18 => ?_) (fun h18 => ?_)
 ·try simp only [nrm] at h18
  refine T.region ?_
  refine rdx (rd_move (v := .int _ _) rfl) ?_
  refine rdx (rd_fieldAddr Tryz.field30_5 rfl) ?_
  refine rdx (rd_fieldAddr Tryz.field28_1 rfl) ?_
  refine TO.store0 (cells' := #[.int _ _, .int _ _, .int _ _, .int _ _, .int _ _, .int _ _, .int _ _, .int _ _, .string _]) Tryz.size3 rfl (v := .int _ _) rfl rfl rfl (Nat.le_of_ble_eq_true rfl) rfl ?_
  refine TO.nil (TQ.block_normal (TQ.then_normal (T.seq ?_)))
  refine T.front1 ?_
  refine T.drawo Tryz.mixes 5 [(54, 0), (55, 1), (56, 2), (57, 3)] [0, 0, 0, 6, 1, 31] [] 4 (by kernel_rfl) ?_
  refine DX.rd rfl rfl rfl (fun _ _ => rd_load_agg (cs := #[.int _ _, .int _ _, .int _ _, .int _ _, .int _ _, .int _ _, .int _ _, .int _ _, .string _]) Tryz.agg30 rfl (Has.own 0 rfl) rfl rfl) ?_
  refine DX.rd rfl rfl rfl (fun _ _ => rd_load_agg (cs := #[.int _ _, .int _ _, .int _ _, .int _ _, .int _ _, .int _ _, .int _ _, .int _ _, .string _]) Tryz.agg30 rfl (Has.own 0 rfl) rfl rfl) ?_
  refine DX.rd rfl rfl rfl (fun _ _ => rd_load_agg (cs := #[.int _ _, .int _ _, .int _ _, .int _ _, .int _ _, .int _ _, .int _ _, .int _ _, .string _]) Tryz.agg30 rfl (Has.own 1 rfl) rfl rfl) ?_
  refine DX.rd rfl rfl rfl (fun _ _ => rd_new Tryz.eqty (p := ⟨w.signer, w.holder, w.rlo, w.rhi, w.carrier, w.serial, w.slo, n, w.sig⟩) (q := w) rfl rfl) ?_
  refine DX.sto (v := .agg #[.int _ _, .int _ _, .int _ _, .int _ _, .int _ _, .int _ _, .int _ _, .int _ _, .string _]) (cells' := #[.int _ _, .int _ _, .int _ _, .int _ _, .int _ _, .int _ _, .int _ _, .int _ _, .string _]) rfl rfl Tryz.size30 (fun _ _ => rfl) (fun _ _ => rfl) rfl rfl (Nat.le_of_ble_eq_true rfl) rfl ?_
  refine DX.done [] rfl rfl (by decide) rfl (fun gh19 => ?_)
  refine rdx (rd_assign (v := .bool _) rfl) ?_
  refine TO.nil (TQ.then_normal (T.ret ?_))
  refine TQ.value ?_ (res2 Tryz.results8 (Res.cells (cs := #[.int _ _, .int _ _, .int _ _, .int _ _, .int _ _, .int _ _, .int _ _, .int _ _, .string _]) Tryz.agg30 rfl (Has.own 0 rfl) rfl rfl) (Res.tmp (v := .bool _) rfl)) _ (.inl rfl)
  have hb : bendW w how n = ⟨w.signer, w.holder, w.rlo, w.rhi, w.carrier, w.serial, w.slo, n, w.sig⟩ := by rw [bendW, if_neg (by omega), if_neg (by omega), if_neg (by omega), if_neg (by omega), if_neg (by omega), if_neg (by omega), if_neg (by omega), if_pos (by omega)]
  rw [hb]; rfl
 try simp only [nrm] at h18
 refine T.region ?_
 refine rdx (rd_fieldAddr Tryz.field30_2 rfl) ?_
 refine rdx (rd_fieldAddr Tryz.field27_1 rfl) ?_
 refine rdx (rd_load (v := .int _ _) Tryz.one3 rfl (Has.own 0 rfl) rfl) ?_
 refine rdx (rd_add rfl rfl (w64 (by omega) (by omega))) ?_
 refine rdx (rd_fieldAddr Tryz.field30_2 rfl) ?_
 refine rdx (rd_fieldAddr Tryz.field27_1 rfl) ?_
 refine TO.store0 (cells' := #[.int _ _, .int _ _, .int _ _, .int _ _, .int _ _, .int _ _, .int _ _, .int _ _, .string _]) Tryz.size3 rfl (v := .int _ _) rfl rfl rfl (Nat.le_of_ble_eq_true rfl) rfl ?_
 refine TO.nil (TQ.block_normal (TQ.then_normal (T.seq ?_)))
 refine T.front1 ?_
 refine T.drawo Tryz.mixes 5 [(54, 0), (55, 1), (56, 2), (57, 3)] [0, 0, 0, 6, 1, 31] [] 4 (by kernel_rfl) ?_
 refine DX.rd rfl rfl rfl (fun _ _ => rd_load_agg (cs := #[.int _ _, .int _ _, .int _ _, .int _ _, .int _ _, .int _ _, .int _ _, .int _ _, .string _]) Tryz.agg30 rfl (Has.own 0 rfl) rfl rfl) ?_
 refine DX.rd rfl rfl rfl (fun _ _ => rd_load_agg (cs := #[.int _ _, .int _ _, .int _ _, .int _ _, .int _ _, .int _ _, .int _ _, .int _ _, .string _]) Tryz.agg30 rfl (Has.own 0 rfl) rfl rfl) ?_
 refine DX.rd rfl rfl rfl (fun _ _ => rd_load_agg (cs := #[.int _ _, .int _ _, .int _ _, .int _ _, .int _ _, .int _ _, .int _ _, .int _ _, .string _]) Tryz.agg30 rfl (Has.own 1 rfl) rfl rfl) ?_
 refine DX.rd rfl rfl rfl (fun _ _ => rd_new Tryz.eqty (p := ⟨w.signer, w.holder, w.rlo, (w.rhi + 1), w.carrier, w.serial, w.slo, w.shi, w.sig⟩) (q := w) rfl rfl) ?_
 refine DX.sto (v := .agg #[.int _ _, .int _ _, .int _ _, .int _ _, .int _ _, .int _ _, .int _ _, .int _ _, .string _]) (cells' := #[.int _ _, .int _ _, .int _ _, .int _ _, .int _ _, .int _ _, .int _ _, .int _ _, .string _]) rfl rfl Tryz.size30 (fun _ _ => rfl) (fun _ _ => rfl) rfl rfl (Nat.le_of_ble_eq_true rfl) rfl ?_
 refine DX.done [] rfl rfl (by decide) rfl (fun gh20 => ?_)
 refine rdx (rd_assign (v := .bool _) rfl) ?_
 refine TO.nil (TQ.then_normal (T.ret ?_))
 refine TQ.value ?_ (res2 Tryz.results8 (Res.cells (cs := #[.int _ _, .int _ _, .int _ _, .int _ _, .int _ _, .int _ _, .int _ _, .int _ _, .string _]) Tryz.agg30 rfl (Has.own 0 rfl) rfl rfl) (Res.tmp (v := .bool _) rfl)) _ (.inl rfl)
 have hb : bendW w how n = ⟨w.signer, w.holder, w.rlo, (w.rhi + 1), w.carrier, w.serial, w.slo, w.shi, w.sig⟩ := by rw [bendW, if_neg (by omega), if_neg (by omega), if_neg (by omega), if_neg (by omega), if_neg (by omega), if_neg (by omega), if_neg (by omega), if_neg (by omega)]
 rw [hb]; rfl
theorem c_ref15_Hashed (k c : Bytes) (hk : k.length ≤ 1000000000) (hc : c.length ≤ 500000000000) : Ctr Tryz.prog 34 #[.string (str k), .string (str c)] [] [] (γ := Option Addr × Nat) (fun x => True) (fun x => .slice x.1 2 x.2) (fun x => [row 9 1 x.1 2 x.2 ((hashed k c).flatMap eStr)]) := by
 refine Ctr.intro Tryz.func34 rfl Tryz.ntmps34 (Nat.le_of_ble_eq_true rfl) fun S0 w0 => ?_
 refine T.seq (T.region ?_)
 refine rdx (rd_assign (v := .slice _ _ _) rfl) ?_
 refine TO.nil (TQ.then_normal (T.seq (T.region ?_)))
 refine rdx (rd_move (v := .string _) rfl) ?_
 refine rdx (rd_cat' rfl rfl (by first | omega | exact wishText_le _ | exact proxyText_le _ | exact puts3_le _ _ _ | (simp only [List.length_append, List.length_cons, List.length_nil, sha_len, leafOf_len, nodeOf_len, sealOf_len, List.length_take, List.length_drop]; omega) | (rw [keyB_len]; omega)) rfl) ?_
 refine rdx (rd_move (v := .string _) rfl) ?_
 refine rdx (rd_cat' rfl rfl (by first | omega | exact wishText_le _ | exact proxyText_le _ | exact puts3_le _ _ _ | (simp only [List.length_append, List.length_cons, List.length_nil, sha_len, leafOf_len, nodeOf_len, sealOf_len, List.length_take, List.length_drop]; omega) | (rw [keyB_len]; omega)) rfl) ?_
 refine rdx (rd_move (v := .string _) rfl) ?_
 refine TO.fn Tryz.enters79 (c_ref02_Leaf _ (by first | omega | exact wishText_le _ | exact proxyText_le _ | exact puts3_le _ _ _ | (simp only [List.length_append, List.length_cons, List.length_nil, sha_len, leafOf_len, nodeOf_len, sealOf_len, List.length_take, List.length_drop]; omega) | (rw [keyB_len]; omega))) rfl Reads0 ?_
 refine rdx (rd_cat' rfl rfl (by first | omega | exact wishText_le _ | exact proxyText_le _ | exact puts3_le _ _ _ | (simp only [List.length_append, List.length_cons, List.length_nil, sha_len, leafOf_len, nodeOf_len, sealOf_len, List.length_take, List.length_drop]; omega) | (rw [keyB_len]; omega)) rfl) ?_
 refine TO.buildS (cs := [.string _, .string _]) Tryz.under32 Tryz.size9 Tryz.zero9 (Nat.le_of_ble_eq_true rfl) rfl (fun b1 => ?_)
 refine rdx (rd_assign (v := .slice _ _ _) rfl) ?_
 refine TO.nil (TQ.then_normal (T.ret ?_))
 refine TQ.done ((some ⟨b1, 0, none⟩, 2)) (trivial) ?_ (fun _ _ => seps_lit 0 1 2 rfl rfl (by decide) (rfl)) (res1 Tryz.results34 (Res.tmp (v := .slice _ _ _) rfl)) _ (.inl rfl)
 rfl
theorem c_ref02_Collided (A : Option Addr) (cap n : Nat) (a : List Bytes) (hn : n = a.length) (B : Option Addr) (capb m : Nat) (b : List Bytes) (hm : m = b.length) (hal : a.length ≤ 1000) (hbl : b.length ≤ 1000) (ha : ∀ i (h : i < a.length), (a[i]'h).length ≤ 1000000000000) (hb : ∀ i (h : i < b.length), (b[i]'h).length ≤ 1000000000000) : Cv Tryz.prog 33 #[.slice A n cap, .slice B m capb] [slc eStr 1 A a, slc eStr 1 B b] (.bool (collB a b)) := by
 subst hn hm
 refine Ctr.intro Tryz.func33 rfl Tryz.ntmps33 (Nat.le_of_ble_eq_true rfl) fun S0 w0 => ?_
 refine T.seq (T.region ?_)
 refine rdx (rd_assign (v := .bool _) rfl) ?_
 refine TO.nil (TQ.then_normal (T.seq (T.region ?_)))
 refine rdx (rd_assign (v := .slice none 0 0) rfl) ?_
 refine TO.newrow 9 1 ?_
 refine TO.nil (TQ.then_normal (T.seq (T.seq (T.region ?_))))
 refine rdx (rd_assign (v := .int _ _) rfl) ?_
 refine TO.nil (TQ.then_normal (T.block ?_))
 refine T.loop3 [0, 1] (fun (A1 : Option Addr) (cap1 : Nat) (q : Nat) => [(5, .slice A1 q cap1), (6, .int .i64 (q : Nat))]) (fun (A1 : Option Addr) (cap1 : Nat) (q : Nat) => [row 9 1 A1 q cap1 (((b.take q).map sha).flatMap eStr)]) (fun (A1 : Option Addr) (cap1 : Nat) (q : Nat) => q ≤ b.length) (fun (A1 : Option Addr) (cap1 : Nat) (q : Nat) => b.length - q) (none) (0) (0) (Nat.zero_le _) (And.intro (rfl) (And.intro (rfl) (trivial))) (fun _ _ h => h) fun A1 cap1 q g0 hx0 => ?_
 refine T.seq (T.seq (T.region ?_))
 refine rdx (rd_move (v := .int _ _) rfl) ?_
 refine rdx (rd_move (v := .slice _ _ _) rfl) ?_
 refine rdx (rd_lensl Tryz.under32 rfl) ?_
 refine rdx (rd_lss rfl rfl) ?_
 refine TO.nil (TQ.then_normal ?_)
 refine T.cond rfl (fun h2 => ?_) (fun h2 => ?_)
 ·try simp only [nrm] at h2
  refine T.skip (TQ.then_normal (T.seq (T.block (T.region ?_))))
  refine rdx (rd_move (v := .slice _ _ _) rfl) ?_
  refine rdx (rd_move (v := .slice _ _ _) rfl) ?_
  refine rdx (rd_move (v := .int _ _) rfl) ?_
  refine rdx (rd_ix (k := q) Tryz.under32 Tryz.size9 rfl rfl (Has.arg 1 rfl) rfl (by omega) (by first | omega | (simp only [List.length_map, List.length_take]; omega))) ?_
  refine rdx (rd_el (v := .string _) q 0 Tryz.one9 rfl (Has.arg 1 rfl) rfl (by omega) (Nat.le_of_ble_eq_true rfl) rfl) ?_
  have hbq := hb q (by omega)
  refine TO.fn Tryz.enters78 (c_ref02_Sum _ (by first | omega | exact wishText_le _ | exact proxyText_le _ | exact puts3_le _ _ _ | (simp only [List.length_append, List.length_cons, List.length_nil, sha_len, leafOf_len, nodeOf_len, sealOf_len, List.length_take, List.length_drop]; omega) | (rw [keyB_len]; omega))) rfl Reads0 ?_
  refine TO.buildS (cs := [.string _]) Tryz.under32 Tryz.size9 Tryz.zero9 (Nat.le_of_ble_eq_true rfl) rfl (fun b3 => ?_)
  refine TO.front1 ?_
  refine TO.app Tryz.trow9 Tryz.under32 (.inl ⟨_, Tryz.under32⟩) rfl rfl (Src.own1 1 rfl rfl) rfl rfl (by omega) (fun A4 c5 hc6 => ?_)
  refine TO.row_eq (k' := q + 1) (cs' := ((b.take (q + 1)).map sha).flatMap eStr) rfl (by rw [← take_snoc (by omega), List.map_append, List.flatMap_append]; rfl) ?_
  refine rdx (rd_assign (v := .slice _ _ _) rfl) ?_
  refine TO.nil (TQ.block_normal (TQ.then_normal (T.region ?_)))
  refine rdx (rd_move (v := .int _ _) rfl) ?_
  refine rdx (rd_add rfl rfl (w64 (by omega) (by omega))) ?_
  refine rdx (rd_assign (v := .int _ _) rfl) ?_
  refine TO.nil ?_
  refine TQ.againk (A4, c5, q + 1) ?_ ?_ (And.intro (rfl) (And.intro (rfl) (trivial))) (And.intro (rfl) (And.intro (rfl) (trivial))) (fun _ _ h => h.sel (js := [0]) (by decide))
  ·first | omega | (dsimp only; omega)
  ·first | omega | (dsimp only; omega)
 try simp only [nrm] at h2
 refine T.exit (TQ.then_exit (TQ.then_exit (TQ.block_out (TQ.then_normal (T.seq (T.seq (T.region ?_)))))))
 refine rdx (rd_assign (v := .int _ _) rfl) ?_
 refine TO.nil (TQ.then_normal (T.block ?_))
 refine T.loop1 [0, 1, 5] (fun (k : Nat) => [(7, .int .i64 (k : Nat))]) (fun (k : Nat) => []) (fun (k : Nat) => k ≤ a.length ∧ (a.take k).any (fun x => b.any (collQ x)) = false) (fun (k : Nat) => a.length - k) (0) (⟨Nat.zero_le _, rfl⟩) (And.intro (rfl) (trivial)) (fun _ _ h => h) fun k g1 hx1 => ?_
 obtain ⟨hk, hk0⟩ := hx1
 refine T.seq (T.seq (T.region ?_))
 refine rdx (rd_move (v := .int _ _) rfl) ?_
 refine rdx (rd_move (v := .slice _ _ _) rfl) ?_
 refine rdx (rd_lensl Tryz.under32 rfl) ?_
 refine rdx (rd_lss rfl rfl) ?_
 refine TO.nil (TQ.then_normal ?_)
 refine T.cond_ft rfl (fun h7 => ?_) (fun h7 => ?_)
 ·try simp only [nrm] at h7
  refine T.exit (TQ.then_exit (TQ.then_exit (TQ.block_out (TQ.then_normal (T.seq (T.region ?_))))))
  refine rdx (rd_assign (v := .bool _) rfl) ?_
  refine TO.nil (TQ.then_normal (T.ret ?_))
  refine TQ.value ?_ (res1 Tryz.results33 (Res.tmp (v := .bool _) rfl)) _ (.inl rfl)
  rw [collB, any_done hk0 (by omega)]
 try simp only [nrm] at h7
 refine T.skip (TQ.then_normal (T.seq (T.block (T.seq (T.region ?_)))))
 refine rdx (rd_move (v := .slice _ _ _) rfl) ?_
 refine rdx (rd_move (v := .int _ _) rfl) ?_
 refine rdx (rd_ix (k := k) Tryz.under32 Tryz.size9 rfl rfl (Has.arg 0 rfl) rfl (by omega) (by first | omega | (simp only [List.length_map, List.length_take]; omega))) ?_
 refine rdx (rd_el (v := .string _) k 0 Tryz.one9 rfl (Has.arg 0 rfl) rfl (by omega) (Nat.le_of_ble_eq_true rfl) rfl) ?_
 have hak := ha k (by omega)
 refine TO.fn Tryz.enters78 (c_ref02_Sum _ (by first | omega | exact wishText_le _ | exact proxyText_le _ | exact puts3_le _ _ _ | (simp only [List.length_append, List.length_cons, List.length_nil, sha_len, leafOf_len, nodeOf_len, sealOf_len, List.length_take, List.length_drop]; omega) | (rw [keyB_len]; omega))) rfl Reads0 ?_
 refine rdx (rd_assign (v := .string _) rfl) ?_
 refine TO.nil (TQ.then_normal (T.seq (T.region ?_)))
 refine rdx (rd_assign (v := .int _ _) rfl) ?_
 refine TO.nil (TQ.then_normal (T.block ?_))
 have hka : k < a.length := by omega
 refine T.loop1 [0, 1, 5, 7, 8] (fun (j : Nat) => [(9, .int .i64 (j : Nat))]) (fun (j : Nat) => []) (fun (j : Nat) => j ≤ b.length ∧ (b.take j).any (collQ (a[k]'hka)) = false) (fun (j : Nat) => b.length - j) (0) (⟨Nat.zero_le _, rfl⟩) (And.intro (rfl) (trivial)) (fun _ _ h => h) fun j g2 hx2 => ?_
 obtain ⟨hj, hj0⟩ := hx2
 refine T.seq (T.seq (T.region ?_))
 refine rdx (rd_move (v := .int _ _) rfl) ?_
 refine rdx (rd_move (v := .slice _ _ _) rfl) ?_
 refine rdx (rd_lensl Tryz.under32 rfl) ?_
 refine rdx (rd_lss rfl rfl) ?_
 refine TO.nil (TQ.then_normal ?_)
 refine T.cond_ft rfl (fun h8 => ?_) (fun h8 => ?_)
 ·try simp only [nrm] at h8
  refine T.exit (TQ.then_exit (TQ.then_exit (TQ.block_out (TQ.block_normal (TQ.then_normal (T.region ?_))))))
  refine rdx (rd_move (v := .int _ _) rfl) ?_
  refine rdx (rd_add rfl rfl (w64 (by omega) (by omega))) ?_
  refine rdx (rd_assign (v := .int _ _) rfl) ?_
  refine TO.nil ?_
  refine TQ.againk (k + 1) ?_ ?_ (And.intro (rfl) (trivial)) (And.intro (rfl) (And.intro (rfl) (And.intro (rfl) (trivial)))) (fun _ _ h => h)
  ·exact ⟨by first | omega | (dsimp only; omega), any_next (by omega) hk0 (any_done hj0 (by omega))⟩
  ·first | omega | (dsimp only; omega)
 try simp only [nrm] at h8
 refine T.skip (TQ.then_normal (T.seq (T.block (T.seq ?_))))
 refine T.drawq Tryz.mixes 15 [(41, 0), (42, 1), (43, 2), (44, 3), (45, 4), (46, 5), (47, 6), (48, 7), (49, 8), (50, 9), (51, 10), (52, 11), (53, 12), (54, 13), (55, 14)] [0, 0, 3, 7, 0, 0, 48, 112, 255, 511, 1023, 1023, 1023, 7167, 15359, 32767, 65535] (by kernel_rfl) ?_
 refine DQ.rd rfl rfl (fun _ => rd_move (v := .slice _ _ _) rfl) ?_
 refine DQ.rd rfl rfl (fun _ => rd_move (v := .int _ _) rfl) ?_
 refine DQ.rd rfl rfl (fun _ => rd_ix (k := k) Tryz.under32 Tryz.size9 rfl rfl (Has.arg 0 rfl) rfl (by omega) (by first | omega | (simp only [List.length_map, List.length_take]; omega))) ?_
 refine DQ.rd rfl rfl (fun _ => rd_el (v := .string _) k 0 Tryz.one9 rfl (Has.arg 0 rfl) rfl (by omega) (Nat.le_of_ble_eq_true rfl) rfl) ?_
 refine DQ.rd rfl rfl (fun _ => rd_move (v := .slice _ _ _) rfl) ?_
 refine DQ.rd rfl rfl (fun _ => rd_move (v := .int _ _) rfl) ?_
 refine DQ.rd rfl rfl (fun _ => rd_ix (k := j) Tryz.under32 Tryz.size9 rfl rfl (Has.arg 1 rfl) rfl (by omega) (by first | omega | (simp only [List.length_map, List.length_take]; omega))) ?_
 refine DQ.rd rfl rfl (fun _ => rd_el (v := .string _) j 0 Tryz.one9 rfl (Has.arg 1 rfl) rfl (by omega) (Nat.le_of_ble_eq_true rfl) rfl) ?_
 refine DQ.rd rfl rfl (fun _ => rd_nes' rfl rfl) ?_
 refine DQ.rd rfl rfl (fun _ => rd_move (v := .bool _) rfl) ?_
 refine DQ.decide_ft 9 rfl (fun h9 => ?_) (fun h9 => ?_)
 ·try simp only [nrm] at h9
  refine DQ.off (b' := false) rfl rfl (fun _ => rfl) nofun ?_
  refine DQ.off (b' := false) rfl rfl (fun _ => rfl) nofun ?_
  refine DQ.off (b' := false) rfl rfl (fun _ => rfl) nofun ?_
  refine DQ.off (b' := false) rfl rfl (fun _ => rfl) nofun ?_
  refine DQ.off (b' := false) rfl rfl (fun _ => rfl) nofun ?_
  refine DQ.done rfl ?_
  refine TO.guard_false (s := 50) (b' := false) rfl rfl nofun ?_
  refine rdx (rd_pick_false (v := .bool _) rfl rfl) ?_
  refine TO.nil (TQ.then_normal ?_)
  refine T.cond_false rfl ?_
  refine T.skip (TQ.block_normal (TQ.then_normal (T.region ?_)))
  refine rdx (rd_move (v := .int _ _) rfl) ?_
  refine rdx (rd_add rfl rfl (w64 (by omega) (by omega))) ?_
  refine rdx (rd_assign (v := .int _ _) rfl) ?_
  refine TO.nil ?_
  refine TQ.againk (j + 1) ?_ ?_ (And.intro (rfl) (trivial)) (And.intro (rfl) (And.intro (rfl) (And.intro (rfl) (And.intro (rfl) (And.intro (rfl) (trivial)))))) (fun _ _ h => h)
  ·exact ⟨by first | omega | (dsimp only; omega), any_next (by omega) hj0 (collQ_f (by simp_all))⟩
  ·first | omega | (dsimp only; omega)
 try simp only [nrm] at h9
 refine DQ.rdg rfl rfl (fun _ => rfl) (fun _ => rd_move (v := .string _) rfl) ?_
 refine DQ.rdg rfl rfl (fun _ => rfl) (fun _ => rd_move (v := .slice _ _ _) rfl) ?_
 refine DQ.rdg rfl rfl (fun _ => rfl) (fun _ => rd_move (v := .int _ _) rfl) ?_
 refine DQ.rdg rfl rfl (fun _ => rfl) (fun _ => rd_ix (k := j) Tryz.under32 Tryz.size9 rfl rfl (row_slc' (e := eStr) (xs := ((b.take q).map sha)) (fun _ => rfl) (by first | rfl | (simp only [List.length_map, List.length_take]; omega)) (rfl) (Has.own 0 rfl)) rfl (by simp only [List.length_map, List.length_take]; omega) (by first | omega | (simp only [List.length_map, List.length_take]; omega))) ?_
 refine DQ.rdg rfl rfl (fun _ => rfl) (fun _ => rd_el (v := .string _) j 0 Tryz.one9 rfl (row_slc' (e := eStr) (xs := ((b.take q).map sha)) (fun _ => rfl) (by first | rfl | (simp only [List.length_map, List.length_take]; omega)) (rfl) (Has.own 0 rfl)) rfl (by simp only [List.length_map, List.length_take]; omega) (Nat.le_of_ble_eq_true rfl) rfl) ?_
 refine DQ.done rfl ?_
 refine TO.guard_true (s := 50) rfl rfl ?_
 refine rdx (rd_eqs' rfl rfl) ?_
 refine rdx (rd_pick_true (v := .bool _) rfl rfl) ?_
 refine TO.nil (TQ.then_normal ?_)
 refine T.cond_ft rfl (fun h10 => ?_) (fun h10 => ?_)
 ·try simp only [nrm] at h10
  refine T.skip (TQ.block_normal (TQ.then_normal (T.region ?_)))
  refine rdx (rd_move (v := .int _ _) rfl) ?_
  refine rdx (rd_add rfl rfl (w64 (by omega) (by omega))) ?_
  refine rdx (rd_assign (v := .int _ _) rfl) ?_
  refine TO.nil ?_
  refine TQ.againk (j + 1) ?_ ?_ (And.intro (rfl) (trivial)) (And.intro (rfl) (And.intro (rfl) (And.intro (rfl) (And.intro (rfl) (And.intro (rfl) (trivial)))))) (fun _ _ h => h)
  ·exact ⟨by first | omega | (dsimp only; omega), any_next (by omega) hj0 (collQ_f (by simp_all))⟩
  ·first | omega | (dsimp only; omega)
 try simp only [nrm] at h10
 refine T.seq (T.region ?_)
 refine rdx (rd_assign (v := .bool _) rfl) ?_
 refine TO.nil (TQ.then_normal (T.ret (TQ.block_ret (TQ.then_ret (TQ.then_ret (TQ.block_ret (TQ.block_ret (TQ.then_ret (TQ.then_ret (TQ.block_ret (TQ.then_ret ?_)))))))))))
 refine TQ.value ?_ (res1 Tryz.results33 (Res.tmp (v := .bool _) rfl)) _ (.inl rfl)
 exact congrArg Value.bool (show collB a b = true from any_hit (p := fun x => b.any (collQ x)) (k := k) (by omega) (any_hit (k := j) (by omega) (collQ_t h9 (by simpa using h10))))
end Go.Proofs
end
section
set_option linter.unusedVariables false
set_option linter.unusedSimpArgs false
set_option maxRecDepth 100000
set_option maxHeartbeats 800000
namespace Go.Proofs
open Go.TL
attribute [local irreducible] Go.TL.T Go.TL.TO Go.TL.TQ
theorem c_ref15_BentProxy (w : Proxy) (how n : Int) (hr0 : 0 ≤ w.rhi) (hr1 : w.rhi ≤ 1000000000000) (how0 : -9223372036854775808 ≤ how) (how1 : how ≤ 9223372036854775807) : Cv Tryz.prog 10 #[proxyV w, .int .i64 how, .int .i64 n] [] (.tuple #[proxyV (bendP w how n), .bool (!(decide (bendP w how n = w)))]) := by
 have q1 := pickN_lo (c := how) (n := 7) (by decide)
 have q2 := pickN_hi (c := how) (n := 7) (by decide)
 refine Ctr.intro Tryz.func10 rfl Tryz.ntmps10 (Nat.le_of_ble_eq_true rfl) fun S0 w0 => ?_
 refine T.seq (T.region ?_)
 refine TO.box (v := .agg #[.int _ _, .int _ _, .int _ _, .int _ _, .int _ _, .int _ _, .string _]) rfl (fun b1 => ?_)
 refine TO.alloc Tryz.zero40 (fun b2 => ?_)
 refine rdx (rd_assign (v := .bool _) rfl) ?_
 refine TO.nil (TQ.then_normal (T.seq (T.region ?_)))
 refine rdx (rd_load_agg (cs := #[.int _ _, .int _ _, .int _ _, .int _ _, .int _ _, .int _ _, .string _]) Tryz.agg40 rfl (Has.own 1 rfl) rfl rfl) ?_
 refine TO.alloc Tryz.zero40 (fun b3 => ?_)
 refine TO.store0 (cells' := #[.int _ _, .int _ _, .int _ _, .int _ _, .int _ _, .int _ _, .string _]) Tryz.size40 rfl (v := .agg #[.int _ _, .int _ _, .int _ _, .int _ _, .int _ _, .int _ _, .string _]) rfl rfl rfl (Nat.le_of_ble_eq_true rfl) rfl ?_
 refine TO.nil (TQ.then_normal (T.seq (T.seq (T.region ?_))))
 refine rdx (rd_move (v := .int _ _) rfl) ?_
 refine TO.fn Tryz.enters40 (c_ref15_pick _ _ (by omega) (by omega) (by omega) (by omega)) rfl Reads0 ?_
 refine TO.nil (TQ.then_normal (T.block (T.seq (T.region ?_))))
 refine rdx (rd_eql rfl rfl) ?_
 refine rdx (rd_assign (v := .bool _) rfl) ?_
 refine TO.nil (TQ.then_normal ?_)
 refine T.cond rfl (fun h4 => ?_) (fun h4 => ?_)
 ·try simp only [nrm] at h4
  refine T.region ?_
  refine rdx (rd_move (v := .int _ _) rfl) ?_
  refine rdx (rd_fieldAddr Tryz.field40_0 rfl) ?_
  refine TO.store0 (cells' := #[.int _ _, .int _ _, .int _ _, .int _ _, .int _ _, .int _ _, .string _]) Tryz.size3 rfl (v := .int _ _) rfl rfl rfl (Nat.le_of_ble_eq_true rfl) rfl ?_
  refine TO.nil (TQ.block_normal (TQ.then_normal (T.seq ?_)))
  refine T.front1 ?_
  refine T.drawo Tryz.mixes 5 [(46, 0), (47, 1), (48, 2), (49, 3)] [0, 0, 0, 6, 1, 31] [] 4 (by kernel_rfl) ?_
  refine DX.rd rfl rfl rfl (fun _ _ => rd_load_agg (cs := #[.int _ _, .int _ _, .int _ _, .int _ _, .int _ _, .int _ _, .string _]) Tryz.agg40 rfl (Has.own 0 rfl) rfl rfl) ?_
  refine DX.rd rfl rfl rfl (fun _ _ => rd_load_agg (cs := #[.int _ _, .int _ _, .int _ _, .int _ _, .int _ _, .int _ _, .string _]) Tryz.agg40 rfl (Has.own 0 rfl) rfl rfl) ?_
  refine DX.rd rfl rfl rfl (fun _ _ => rd_load_agg (cs := #[.int _ _, .int _ _, .int _ _, .int _ _, .int _ _, .int _ _, .string _]) Tryz.agg40 rfl (Has.own 1 rfl) rfl rfl) ?_
  refine DX.rd rfl rfl rfl (fun _ _ => rd_nep Tryz.eqty (p := ⟨n, w.to, w.rlo, w.rhi, w.slo, w.shi, w.sig⟩) (q := w) rfl rfl) ?_
  refine DX.sto (v := .agg #[.int _ _, .int _ _, .int _ _, .int _ _, .int _ _, .int _ _, .string _]) (cells' := #[.int _ _, .int _ _, .int _ _, .int _ _, .int _ _, .int _ _, .string _]) rfl rfl Tryz.size40 (fun _ _ => rfl) (fun _ _ => rfl) rfl rfl (Nat.le_of_ble_eq_true rfl) rfl ?_
  refine DX.done [] rfl rfl (by decide) rfl (fun gh5 => ?_)
  refine rdx (rd_assign (v := .bool _) rfl) ?_
  refine TO.nil (TQ.then_normal (T.ret ?_))
  refine TQ.value ?_ (res2 Tryz.results10 (Res.cells (cs := #[.int _ _, .int _ _, .int _ _, .int _ _, .int _ _, .int _ _, .string _]) Tryz.agg40 rfl (Has.own 0 rfl) rfl rfl) (Res.tmp (v := .bool _) rfl)) _ (.inl rfl)
  have hb : bendP w how n = ⟨n, w.to, w.rlo, w.rhi, w.slo, w.shi, w.sig⟩ := by rw [bendP, if_pos (by omega)]
  rw [hb]; rfl
 try simp only [nrm] at h4
 refine T.seq (T.region ?_)
 refine rdx (rd_eql rfl rfl) ?_
 refine rdx (rd_assign (v := .bool _) rfl) ?_
 refine TO.nil (TQ.then_normal ?_)
 refine T.cond rfl (fun h6 => ?_) (fun h6 => ?_)
 ·try simp only [nrm] at h6
  refine T.region ?_
  refine rdx (rd_move (v := .int _ _) rfl) ?_
  refine rdx (rd_fieldAddr Tryz.field40_1 rfl) ?_
  refine TO.store0 (cells' := #[.int _ _, .int _ _, .int _ _, .int _ _, .int _ _, .int _ _, .string _]) Tryz.size3 rfl (v := .int _ _) rfl rfl rfl (Nat.le_of_ble_eq_true rfl) rfl ?_
  refine TO.nil (TQ.block_normal (TQ.then_normal (T.seq ?_)))
  refine T.front1 ?_
  refine T.drawo Tryz.mixes 5 [(46, 0), (47, 1), (48, 2), (49, 3)] [0, 0, 0, 6, 1, 31] [] 4 (by kernel_rfl) ?_
  refine DX.rd rfl rfl rfl (fun _ _ => rd_load_agg (cs := #[.int _ _, .int _ _, .int _ _, .int _ _, .int _ _, .int _ _, .string _]) Tryz.agg40 rfl (Has.own 0 rfl) rfl rfl) ?_
  refine DX.rd rfl rfl rfl (fun _ _ => rd_load_agg (cs := #[.int _ _, .int _ _, .int _ _, .int _ _, .int _ _, .int _ _, .string _]) Tryz.agg40 rfl (Has.own 0 rfl) rfl rfl) ?_
  refine DX.rd rfl rfl rfl (fun _ _ => rd_load_agg (cs := #[.int _ _, .int _ _, .int _ _, .int _ _, .int _ _, .int _ _, .string _]) Tryz.agg40 rfl (Has.own 1 rfl) rfl rfl) ?_
  refine DX.rd rfl rfl rfl (fun _ _ => rd_nep Tryz.eqty (p := ⟨w.frm, n, w.rlo, w.rhi, w.slo, w.shi, w.sig⟩) (q := w) rfl rfl) ?_
  refine DX.sto (v := .agg #[.int _ _, .int _ _, .int _ _, .int _ _, .int _ _, .int _ _, .string _]) (cells' := #[.int _ _, .int _ _, .int _ _, .int _ _, .int _ _, .int _ _, .string _]) rfl rfl Tryz.size40 (fun _ _ => rfl) (fun _ _ => rfl) rfl rfl (Nat.le_of_ble_eq_true rfl) rfl ?_
  refine DX.done [] rfl rfl (by decide) rfl (fun gh7 => ?_)
  refine rdx (rd_assign (v := .bool _) rfl) ?_
  refine TO.nil (TQ.then_normal (T.ret ?_))
  refine TQ.value ?_ (res2 Tryz.results10 (Res.cells (cs := #[.int _ _, .int _ _, .int _ _, .int _ _, .int _ _, .int _ _, .string _]) Tryz.agg40 rfl (Has.own 0 rfl) rfl rfl) (Res.tmp (v := .bool _) rfl)) _ (.inl rfl)
  have hb : bendP w how n = ⟨w.frm, n, w.rlo, w.rhi, w.slo, w.shi, w.sig⟩ := by rw [bendP, if_neg (by omega), if_pos (by omega)]
  rw [hb]; rfl
 try simp only [nrm] at h6
 refine T.seq (T.region ?_)
 refine rdx (rd_eql rfl rfl) ?_
 refine rdx (rd_assign (v := .bool _) rfl) ?_
 refine TO.nil (TQ.then_normal ?_)
 refine T.cond rfl (fun h8 => ?_) (fun h8 => ?_)
 ·try simp only [nrm] at h8
  refine T.region ?_
  refine rdx (rd_move (v := .int _ _) rfl) ?_
  refine rdx (rd_fieldAddr Tryz.field40_2 rfl) ?_
  refine rdx (rd_fieldAddr Tryz.field27_0 rfl) ?_
  refine TO.store0 (cells' := #[.int _ _, .int _ _, .int _ _, .int _ _, .int _ _, .int _ _, .string _]) Tryz.size3 rfl (v := .int _ _) rfl rfl rfl (Nat.le_of_ble_eq_true rfl) rfl ?_
  refine TO.nil (TQ.block_normal (TQ.then_normal (T.seq ?_)))
  refine T.front1 ?_
  refine T.drawo Tryz.mixes 5 [(46, 0), (47, 1), (48, 2), (49, 3)] [0, 0, 0, 6, 1, 31] [] 4 (by kernel_rfl) ?_
  refine DX.rd rfl rfl rfl (fun _ _ => rd_load_agg (cs := #[.int _ _, .int _ _, .int _ _, .int _ _, .int _ _, .int _ _, .string _]) Tryz.agg40 rfl (Has.own 0 rfl) rfl rfl) ?_
  refine DX.rd rfl rfl rfl (fun _ _ => rd_load_agg (cs := #[.int _ _, .int _ _, .int _ _, .int _ _, .int _ _, .int _ _, .string _]) Tryz.agg40 rfl (Has.own 0 rfl) rfl rfl) ?_
  refine DX.rd rfl rfl rfl (fun _ _ => rd_load_agg (cs := #[.int _ _, .int _ _, .int _ _, .int _ _, .int _ _, .int _ _, .string _]) Tryz.agg40 rfl (Has.own 1 rfl) rfl rfl) ?_
  refine DX.rd rfl rfl rfl (fun _ _ => rd_nep Tryz.eqty (p := ⟨w.frm, w.to, n, w.rhi, w.slo, w.shi, w.sig⟩) (q := w) rfl rfl) ?_
  refine DX.sto (v := .agg #[.int _ _, .int _ _, .int _ _, .int _ _, .int _ _, .int _ _, .string _]) (cells' := #[.int _ _, .int _ _, .int _ _, .int _ _, .int _ _, .int _ _, .string _]) rfl rfl Tryz.size40 (fun _ _ => rfl) (fun _ _ => rfl) rfl rfl (Nat.le_of_ble_eq_true rfl) rfl ?_
  refine DX.done [] rfl rfl (by decide) rfl (fun gh9 => ?_)
  refine rdx (rd_assign (v := .bool _) rfl) ?_
  refine TO.nil (TQ.then_normal (T.ret ?_))
  refine TQ.value ?_ (res2 Tryz.results10 (Res.cells (cs := #[.int _ _, .int _ _, .int _ _, .int _ _, .int _ _, .int _ _, .string _]) Tryz.agg40 rfl (Has.own 0 rfl) rfl rfl) (Res.tmp (v := .bool _) rfl)) _ (.inl rfl)
  have hb : bendP w how n = ⟨w.frm, w.to, n, w.rhi, w.slo, w.shi, w.sig⟩ := by rw [bendP, if_neg (by omega), if_neg (by omega), if_pos (by omega)]
  rw [hb]; rfl
 try simp only [nrm] at h8
 refine T.seq (T.region ?_)
 refine rdx (rd_eql rfl rfl) ?_
 refine rdx (rd_assign (v := .bool _) rfl) ?_
 refine TO.nil (TQ.then_normal ?_)
 refine T.cond rfl (fun h10 => ?_) (fun h10 => ?_)
 ·try simp only [nrm] at h10
  refine T.region ?_
  refine rdx (rd_move (v := .int _ _) rfl) ?_
  refine rdx (rd_fieldAddr Tryz.field40_2 rfl) ?_
  refine rdx (rd_fieldAddr Tryz.field27_1 rfl) ?_
  refine TO.store0 (cells' := #[.int _ _, .int _ _, .int _ _, .int _ _, .int _ _, .int _ _, .string _]) Tryz.size3 rfl (v := .int _ _) rfl rfl rfl (Nat.le_of_ble_eq_true rfl) rfl ?_
  refine TO.nil (TQ.block_normal (TQ.then_normal (T.seq ?_)))
  refine T.front1 ?_
  refine T.drawo Tryz.mixes 5 [(46, 0), (47, 1), (48, 2), (49, 3)] [0, 0, 0, 6, 1, 31] [] 4 (by kernel_rfl) ?_
  refine DX.rd rfl rfl rfl (fun _ _ => rd_load_agg (cs := #[.int _ _, .int _ _, .int _ _, .int _ _, .int _ _, .int _ _, .string _]) Tryz.agg40 rfl (Has.own 0 rfl) rfl rfl) ?_
  refine DX.rd rfl rfl rfl (fun _ _ => rd_load_agg (cs := #[.int _ _, .int _ _, .int _ _, .int _ _, .int _ _, .int _ _, .string _]) Tryz.agg40 rfl (Has.own 0 rfl) rfl rfl) ?_
  refine DX.rd rfl rfl rfl (fun _ _ => rd_load_agg (cs := #[.int _ _, .int _ _, .int _ _, .int _ _, .int _ _, .int _ _, .string _]) Tryz.agg40 rfl (Has.own 1 rfl) rfl rfl) ?_
  refine DX.rd rfl rfl rfl (fun _ _ => rd_nep Tryz.eqty (p := ⟨w.frm, w.to, w.rlo, n, w.slo, w.shi, w.sig⟩) (q := w) rfl rfl) ?_
  refine DX.sto (v := .agg #[.int _ _, .int _ _, .int _ _, .int _ _, .int _ _, .int _ _, .string _]) (cells' := #[.int _ _, .int _ _, .int _ _, .int _ _, .int _ _, .int _ _, .string _]) rfl rfl Tryz.size40 (fun _ _ => rfl) (fun _ _ => rfl) rfl rfl (Nat.le_of_ble_eq_true rfl) rfl ?_
  refine DX.done [] rfl rfl (by decide) rfl (fun gh11 => ?_)
  refine rdx (rd_assign (v := .bool _) rfl) ?_
  refine TO.nil (TQ.then_normal (T.ret ?_))
  refine TQ.value ?_ (res2 Tryz.results10 (Res.cells (cs := #[.int _ _, .int _ _, .int _ _, .int _ _, .int _ _, .int _ _, .string _]) Tryz.agg40 rfl (Has.own 0 rfl) rfl rfl) (Res.tmp (v := .bool _) rfl)) _ (.inl rfl)
  have hb : bendP w how n = ⟨w.frm, w.to, w.rlo, n, w.slo, w.shi, w.sig⟩ := by rw [bendP, if_neg (by omega), if_neg (by omega), if_neg (by omega), if_pos (by omega)]
  rw [hb]; rfl
 try simp only [nrm] at h10
 refine T.seq (T.region ?_)
 refine rdx (rd_eql rfl rfl) ?_
 refine rdx (rd_assign (v := .bool _) rfl) ?_
 refine TO.nil (TQ.then_normal ?_)
 refine T.cond rfl (fun h12 => ?_) (fun h12 => ?_)
 ·try simp only [nrm] at h12
  refine T.region ?_
  refine rdx (rd_move (v := .int _ _) rfl) ?_
  refine rdx (rd_fieldAddr Tryz.field40_3 rfl) ?_
  refine rdx (rd_fieldAddr Tryz.field28_0 rfl) ?_
  refine TO.store0 (cells' := #[.int _ _, .int _ _, .int _ _, .int _ _, .int _ _, .int _ _, .string _]) Tryz.size3 rfl (v := .int _ _) rfl rfl rfl (Nat.le_of_ble_eq_true rfl) rfl ?_
  refine TO.nil (TQ.block_normal (TQ.then_normal (T.seq ?_)))
  refine T.front1 ?_
  refine T.drawo Tryz.mixes 5 [(46, 0), (47, 1), (48, 2), (49, 3)] [0, 0, 0, 6, 1, 31] [] 4 (by kernel_rfl) ?_
  refine DX.rd rfl rfl rfl (fun _ _ => rd_load_agg (cs := #[.int _ _, .int _ _, .int _ _, .int _ _, .int _ _, .int _ _, .string _]) Tryz.agg40 rfl (Has.own 0 rfl) rfl rfl) ?_
  refine DX.rd rfl rfl rfl (fun _ _ => rd_load_agg (cs := #[.int _ _, .int _ _, .int _ _, .int _ _, .int _ _, .int _ _, .string _]) Tryz.agg40 rfl (Has.own 0 rfl) rfl rfl) ?_
  refine DX.rd rfl rfl rfl (fun _ _ => rd_load_agg (cs := #[.int _ _, .int _ _, .int _ _, .int _ _, .int _ _, .int _ _, .string _]) Tryz.agg40 rfl (Has.own 1 rfl) rfl rfl) ?_
  refine DX.rd rfl rfl rfl (fun _ _ => rd_nep Tryz.eqty (p := ⟨w.frm, w.to, w.rlo, w.rhi, n, w.shi, w.sig⟩) (q := w) rfl rfl) ?_
  refine DX.sto (v := .agg #[.int _ _, .int _ _, .int _ _, .int _ _, .int _ _, .int _ _, .string _]) (cells' := #[.int _ _, .int _ _, .int _ _, .int _ _, .int _ _, .int _ _, .string _]) rfl rfl Tryz.size40 (fun _ _ => rfl) (fun _ _ => rfl) rfl rfl (Nat.le_of_ble_eq_true rfl) rfl ?_
  refine DX.done [] rfl rfl (by decide) rfl (fun gh13 => ?_)
  refine rdx (rd_assign (v := .bool _) rfl) ?_
  refine TO.nil (TQ.then_normal (T.ret ?_))
  refine TQ.value ?_ (res2 Tryz.results10 (Res.cells (cs := #[.int _ _, .int _ _, .int _ _, .int _ _, .int _ _, .int _ _, .string _]) Tryz.agg40 rfl (Has.own 0 rfl) rfl rfl) (Res.tmp (v := .bool _) rfl)) _ (.inl rfl)
  have hb : bendP w how n = ⟨w.frm, w.to, w.rlo, w.rhi, n, w.shi, w.sig⟩ := by rw [bendP, if_neg (by omega), if_neg (by omega), if_neg (by omega), if_neg (by omega), if_pos (by omega)]
  rw [hb]; rfl
 try simp only [nrm] at h12
 refine T.seq (T.region ?_)
 refine rdx (rd_eql rfl rfl) ?_
 refine rdx (rd_assign (v := .bool _) rfl) ?_
 refine TO.nil (TQ.then_normal ?_)
 refine T.cond rfl (fun h14 => ?_) (fun h14 => ?_)
 ·try simp only [nrm] at h14
  refine T.region ?_
  refine rdx (rd_move (v := .int _ _) rfl) ?_
  refine rdx (rd_fieldAddr Tryz.field40_3 rfl) ?_
  refine rdx (rd_fieldAddr Tryz.field28_1 rfl) ?_
  refine TO.store0 (cells' := #[.int _ _, .int _ _, .int _ _, .int _ _, .int _ _, .int _ _, .string _]) Tryz.size3 rfl (v := .int _ _) rfl rfl rfl (Nat.le_of_ble_eq_true rfl) rfl ?_
  refine TO.nil (TQ.block_normal (TQ.then_normal (T.seq ?_)))
  refine T.front1 ?_
  refine T.drawo Tryz.mixes 5 [(46, 0), (47, 1), (48, 2), (49, 3)] [0, 0, 0, 6, 1, 31] [] 4 (by kernel_rfl) ?_
  refine DX.rd rfl rfl rfl (fun _ _ => rd_load_agg (cs := #[.int _ _, .int _ _, .int _ _, .int _ _, .int _ _, .int _ _, .string _]) Tryz.agg40 rfl (Has.own 0 rfl) rfl rfl) ?_
  refine DX.rd rfl rfl rfl (fun _ _ => rd_load_agg (cs := #[.int _ _, .int _ _, .int _ _, .int _ _, .int _ _, .int _ _, .string _]) Tryz.agg40 rfl (Has.own 0 rfl) rfl rfl) ?_
  refine DX.rd rfl rfl rfl (fun _ _ => rd_load_agg (cs := #[.int _ _, .int _ _, .int _ _, .int _ _, .int _ _, .int _ _, .string _]) Tryz.agg40 rfl (Has.own 1 rfl) rfl rfl) ?_
  refine DX.rd rfl rfl rfl (fun _ _ => rd_nep Tryz.eqty (p := ⟨w.frm, w.to, w.rlo, w.rhi, w.slo, n, w.sig⟩) (q := w) rfl rfl) ?_
  refine DX.sto (v := .agg #[.int _ _, .int _ _, .int _ _, .int _ _, .int _ _, .int _ _, .string _]) (cells' := #[.int _ _, .int _ _, .int _ _, .int _ _, .int _ _, .int _ _, .string _]) rfl rfl Tryz.size40 (fun _ _ => rfl) (fun _ _ => rfl) rfl rfl (Nat.le_of_ble_eq_true rfl) rfl ?_
  refine DX.done [] rfl rfl (by decide) rfl (fun gh15 => ?_)
  refine rdx (rd_assign (v := .bool _) rfl) ?_
  refine TO.nil (TQ.then_normal (T.ret ?_))
  refine TQ.value ?_ (res2 Tryz.results10 (Res.cells (cs := #[.int _ _, .int _ _, .int _ _, .int _ _, .int _ _, .int _ _, .string _]) Tryz.agg40 rfl (Has.own 0 rfl) rfl rfl) (Res.tmp (v := .bool _) rfl)) _ (.inl rfl)
  have hb : bendP w how n = ⟨w.frm, w.to, w.rlo, w.rhi, w.slo, n, w.sig⟩ := by rw [bendP, if_neg (by omega), if_neg (by omega), if_neg (by omega), if_neg (by omega), if_neg (by omega), if_pos (by omega)]
  rw [hb]; rfl
 try simp only [nrm] at h14
 refine T.region ?_
 refine rdx (rd_fieldAddr Tryz.field40_2 rfl) ?_
 refine rdx (rd_fieldAddr Tryz.field27_1 rfl) ?_
 refine rdx (rd_load (v := .int _ _) Tryz.one3 rfl (Has.own 0 rfl) rfl) ?_
 refine rdx (rd_add rfl rfl (w64 (by omega) (by omega))) ?_
 refine rdx (rd_fieldAddr Tryz.field40_2 rfl) ?_
 refine rdx (rd_fieldAddr Tryz.field27_1 rfl) ?_
 refine TO.store0 (cells' := #[.int _ _, .int _ _, .int _ _, .int _ _, .int _ _, .int _ _, .string _]) Tryz.size3 rfl (v := .int _ _) rfl rfl rfl (Nat.le_of_ble_eq_true rfl) rfl ?_
 refine TO.nil (TQ.block_normal (TQ.then_normal (T.seq ?_)))
 refine T.front1 ?_
 refine T.drawo Tryz.mixes 5 [(46, 0), (47, 1), (48, 2), (49, 3)] [0, 0, 0, 6, 1, 31] [] 4 (by kernel_rfl) ?_
 refine DX.rd rfl rfl rfl (fun _ _ => rd_load_agg (cs := #[.int _ _, .int _ _, .int _ _, .int _ _, .int _ _, .int _ _, .string _]) Tryz.agg40 rfl (Has.own 0 rfl) rfl rfl) ?_
 refine DX.rd rfl rfl rfl (fun _ _ => rd_load_agg (cs := #[.int _ _, .int _ _, .int _ _, .int _ _, .int _ _, .int _ _, .string _]) Tryz.agg40 rfl (Has.own 0 rfl) rfl rfl) ?_
 refine DX.rd rfl rfl rfl (fun _ _ => rd_load_agg (cs := #[.int _ _, .int _ _, .int _ _, .int _ _, .int _ _, .int _ _, .string _]) Tryz.agg40 rfl (Has.own 1 rfl) rfl rfl) ?_
 refine DX.rd rfl rfl rfl (fun _ _ => rd_nep Tryz.eqty (p := ⟨w.frm, w.to, w.rlo, (w.rhi + 1), w.slo, w.shi, w.sig⟩) (q := w) rfl rfl) ?_
 refine DX.sto (v := .agg #[.int _ _, .int _ _, .int _ _, .int _ _, .int _ _, .int _ _, .string _]) (cells' := #[.int _ _, .int _ _, .int _ _, .int _ _, .int _ _, .int _ _, .string _]) rfl rfl Tryz.size40 (fun _ _ => rfl) (fun _ _ => rfl) rfl rfl (Nat.le_of_ble_eq_true rfl) rfl ?_
 refine DX.done [] rfl rfl (by decide) rfl (fun gh16 => ?_)
 refine rdx (rd_assign (v := .bool _) rfl) ?_
 refine TO.nil (TQ.then_normal (T.ret ?_))
 refine TQ.value ?_ (res2 Tryz.results10 (Res.cells (cs := #[.int _ _, .int _ _, .int _ _, .int _ _, .int _ _, .int _ _, .string _]) Tryz.agg40 rfl (Has.own 0 rfl) rfl rfl) (Res.tmp (v := .bool _) rfl)) _ (.inl rfl)
 have hb : bendP w how n = ⟨w.frm, w.to, w.rlo, (w.rhi + 1), w.slo, w.shi, w.sig⟩ := by rw [bendP, if_neg (by omega), if_neg (by omega), if_neg (by omega), if_neg (by omega), if_neg (by omega), if_neg (by omega)]
 rw [hb]; rfl
set_option maxHeartbeats 3200000 in
theorem c_law15_WishBinds (u : Nums) (A : Option Addr) (m cap : Nat) (hm : m = u.chain.length) (hx : NumsOk u) (hcl : u.chain.length ≤ 9223372036854775807) (how n at_ : Int) (how0 : -9223372036854775808 ≤ how) (how1 : how ≤ 9223372036854775807) (at_0 : -9223372036854775808 ≤ at_) (at_1 : at_ ≤ 9223372036854775807) : Cv Tryz.prog 5 #[.agg #[.int .i64 u.holder, .int .i64 u.r0, .int .i64 u.r1, .int .i64 u.s0, .int .i64 u.s1, .int .i64 u.carrier, .int .i64 u.serial, .slice A m cap], .int .i64 how, .int .i64 n, .int .i64 at_] [glob 0 roundC 162, slc fiveL 5 A u.chain] (.bool true) := by
 subst hm
 have M := made u
 obtain ⟨g1, g2⟩ := M.sg
 obtain ⟨g3, g4⟩ := M.hd
 obtain ⟨g5, g6, g7⟩ := M.rg
 obtain ⟨g8, g9, g0⟩ := M.sp
 have hll := M.len
 have hwt := wishText_len (madeW u)
 have hk10 := keysN_len 10
 refine Ctr.intro Tryz.func5 rfl Tryz.ntmps5 (Nat.le_of_ble_eq_true rfl) fun S0 w0 => ?_
 refine T.seq (T.region ?_)
 refine TO.box (v := .agg #[.int _ _, .int _ _, .int _ _, .int _ _, .int _ _, .int _ _, .int _ _, .slice _ _ _]) rfl (fun b1 => ?_)
 refine rdx (rd_assign (v := .bool _) rfl) ?_
 refine TO.nil (TQ.then_normal (T.seq (T.region ?_)))
 refine TO.fn Tryz.enters6 (cv_b (c_law15_sane) (rfl)) rfl (ReadsC (Has.arg 0 rfl) Reads0) ?_
 refine rdx (rd_assign (v := .bool _) rfl) ?_
 refine TO.nil (TQ.then_normal (T.seq (T.seq (T.region ?_))))
 refine rdx (rd_move (v := .bool _) rfl) ?_
 refine rdx (rd_not rfl) ?_
 refine TO.nil (TQ.then_normal ?_)
 refine T.cond_false rfl ?_
 refine T.skip (TQ.then_normal (T.seq (T.region ?_)))
 refine rdx (rd_load_agg (cs := #[.int _ _, .int _ _, .int _ _, .int _ _, .int _ _, .int _ _, .int _ _, .slice _ _ _]) Tryz.agg25 rfl (Has.own 0 rfl) rfl rfl) ?_
 refine TO.fnx Tryz.enters7 (c_ref15_Made u _ _ _ rfl hx hcl) rfl (ReadsC (Has.arg 1 rfl) Reads0) (fun ⟨A2, c3⟩ hx4 => ?_)
 refine rdx (rd_move (v := .tuple _) rfl) ?_
 refine rdx (rd_extract (v := .agg _) (vs := _) rfl rfl) ?_
 refine rdx (rd_extract (v := .slice _ _ _) (vs := _) rfl rfl) ?_
 refine TO.alloc Tryz.zero30 (fun b6 => ?_)
 refine TO.store0 (cells' := #[.int _ _, .int _ _, .int _ _, .int _ _, .int _ _, .int _ _, .int _ _, .int _ _, .string _]) Tryz.size30 rfl (v := .agg #[.int _ _, .int _ _, .int _ _, .int _ _, .int _ _, .int _ _, .int _ _, .int _ _, .string _]) rfl rfl rfl (Nat.le_of_ble_eq_true rfl) rfl ?_
 refine rdx (rd_assign (v := .slice _ _ _) rfl) ?_
 refine TO.nil (TQ.then_normal (T.seq (T.region ?_)))
 refine TO.fnx Tryz.enters11 (c_ref15_Keys) rfl Reads0 (fun ⟨A7, cap8⟩ hx9 => ?_)
 refine rdx (rd_assign (v := .slice _ _ _) rfl) ?_
 refine TO.nil (TQ.then_normal (T.seq (T.region ?_)))
 refine rdx (rd_load_agg (cs := #[.int _ _, .int _ _, .int _ _, .int _ _, .int _ _, .int _ _, .int _ _, .int _ _, .string _]) Tryz.agg30 rfl (Has.own 1 rfl) rfl rfl) ?_
 refine rdx (rd_move (v := .int _ _) rfl) ?_
 refine rdx (rd_move (v := .int _ _) rfl) ?_
 refine TO.fn Tryz.enters8 (c_ref15_BentWish (madeW u) (how) (n) (by omega) (by omega) (by omega) (by omega)) rfl Reads0 ?_
 obtain ⟨v, hv⟩ : ∃ v, v = bendW (madeW u) how n := ⟨_, rfl⟩
 rw [← hv]
 have hvs : v.sig = (madeW u).sig := by rw [hv]; exact bendW_sig _ _ _
 have hwv := wishText_len v
 refine rdx (rd_move (v := .tuple _) rfl) ?_
 refine rdx (rd_extract (v := .agg _) (vs := _) rfl rfl) ?_
 refine rdx (rd_extract (v := .bool _) (vs := _) rfl rfl) ?_
 refine TO.alloc Tryz.zero30 (fun b11 => ?_)
 refine TO.store0 (cells' := #[.int _ _, .int _ _, .int _ _, .int _ _, .int _ _, .int _ _, .int _ _, .int _ _, .string _]) Tryz.size30 rfl (v := .agg #[.int _ _, .int _ _, .int _ _, .int _ _, .int _ _, .int _ _, .int _ _, .int _ _, .string _]) rfl rfl rfl (Nat.le_of_ble_eq_true rfl) rfl ?_
 refine rdx (rd_assign (v := .bool _) rfl) ?_
 refine TO.nil (TQ.then_normal (T.seq (T.seq (T.region ?_))))
 refine rdx (rd_fieldAddr Tryz.field30_2 rfl) ?_
 refine rdx (rd_fieldAddr Tryz.field27_0 rfl) ?_
 refine rdx (rd_load (v := .int _ _) Tryz.one3 rfl (Has.own 2 rfl) rfl) ?_
 refine rdx (rd_fieldAddr Tryz.field30_5 rfl) ?_
 refine rdx (rd_fieldAddr Tryz.field28_0 rfl) ?_
 refine rdx (rd_load (v := .int _ _) Tryz.one3 rfl (Has.own 2 rfl) rfl) ?_
 refine rdx (rd_builda (cs := [.int _ _, .int _ _]) Tryz.under22 Tryz.size3 Tryz.zero22 rfl rfl) ?_
 refine rdx (rd_fieldAddr Tryz.field30_2 rfl) ?_
 refine rdx (rd_fieldAddr Tryz.field27_0 rfl) ?_
 refine rdx (rd_load (v := .int _ _) Tryz.one3 rfl (Has.own 0 rfl) rfl) ?_
 refine rdx (rd_fieldAddr Tryz.field30_5 rfl) ?_
 refine rdx (rd_fieldAddr Tryz.field28_0 rfl) ?_
 refine rdx (rd_load (v := .int _ _) Tryz.one3 rfl (Has.own 0 rfl) rfl) ?_
 refine rdx (rd_builda (cs := [.int _ _, .int _ _]) Tryz.under22 Tryz.size3 Tryz.zero22 rfl rfl) ?_
 refine rdx (rd_fieldAddr Tryz.field30_2 rfl) ?_
 refine rdx (rd_fieldAddr Tryz.field27_1 rfl) ?_
 refine rdx (rd_load (v := .int _ _) Tryz.one3 rfl (Has.own 0 rfl) rfl) ?_
 refine rdx (rd_sub rfl rfl rfl) ?_
 refine rdx (rd_fieldAddr Tryz.field30_5 rfl) ?_
 refine rdx (rd_fieldAddr Tryz.field28_1 rfl) ?_
 refine rdx (rd_load (v := .int _ _) Tryz.one3 rfl (Has.own 0 rfl) rfl) ?_
 refine rdx (rd_sub rfl rfl rfl) ?_
 refine rdx (rd_builda (cs := [.int _ _, .int _ _]) Tryz.under22 Tryz.size3 Tryz.zero22 rfl rfl) ?_
 refine TO.buildS (cs := [.int _ _, .int _ _, .int _ _, .int _ _, .int _ _, .int _ _]) Tryz.under48 Tryz.size22 Tryz.zero22 (Nat.le_of_ble_eq_true rfl) rfl (fun b12 => ?_)
 refine rdx (rd_lensl Tryz.under48 rfl) ?_
 refine rdx (rd_move (v := .int _ _) rfl) ?_
 refine TO.nil (TQ.then_normal (T.block ?_))
 refine T.loop1 [1, 2, 3, 9, 10, 11, 12, 13, 14, 58, 59] (fun (q : Nat) => [(60, .int .i64 (q : Nat))]) (fun (q : Nat) => []) (fun (q : Nat) => q ≤ 3) (fun (q : Nat) => 3 - q) (0) (Nat.zero_le _) (And.intro (rfl) (trivial)) (fun _ _ h => h) fun q g0 hx0 => ?_
 refine T.seq (T.region ?_)
 refine rdx (rd_lss rfl rfl) ?_
 refine TO.nil (TQ.then_normal (T.seq ?_))
 refine T.cond rfl (fun h13 => ?_) (fun h13 => ?_)
 ·try simp only [nrm] at h13
  refine T.skip (TQ.then_normal (T.seq (T.block (T.seq (T.region ?_)))))
  refine rdx (rd_ix (k := q) Tryz.under48 Tryz.size22 rfl rfl (own_slc (e := pairL) (sz := 2) [((madeW u).rlo, (madeW u).slo), (v.rlo, v.slo), (IntKind.i64.wrap (v.rhi - 1), IntKind.i64.wrap (v.shi - 1))] rfl (fun _ => rfl) (Has.own 0 rfl) (by simp)) rfl (by first | omega | (simp only [List.length_cons, List.length_nil]; omega)) (by first | omega | (simp only [List.length_cons, List.length_nil]; omega))) ?_
  refine rdx (rd_ela (cs := [.int _ _, .int _ _]) q 0 Tryz.agg22 rfl (own_slc (e := pairL) (sz := 2) [((madeW u).rlo, (madeW u).slo), (v.rlo, v.slo), (IntKind.i64.wrap (v.rhi - 1), IntKind.i64.wrap (v.shi - 1))] rfl (fun _ => rfl) (Has.own 0 rfl) (by simp)) rfl (by first | omega | (simp only [List.length_cons, List.length_nil]; omega)) (Nat.le_of_ble_eq_true rfl) rfl rfl rfl) ?_
  have hq3 : q < [((madeW u).rlo, (madeW u).slo), (v.rlo, v.slo), (IntKind.i64.wrap (v.rhi - 1), IntKind.i64.wrap (v.shi - 1))].length := by simp only [List.length_cons, List.length_nil]; omega
  refine TO.alloc Tryz.zero22 (fun b14 => ?_)
  refine TO.store0 (cells' := #[.int _ _, .int _ _]) Tryz.size22 rfl (v := .agg #[.int _ _, .int _ _]) rfl rfl rfl (Nat.le_of_ble_eq_true rfl) rfl ?_
  refine TO.nil (TQ.then_normal (T.seq (T.region ?_)))
  refine rdx (rd_move (v := .bool _) rfl) ?_
  refine rdx (rd_move (v := .bool _) rfl) ?_
  refine TO.decide_ft (s := 65) rfl (fun h15 => ?_) (fun h15 => ?_)
  ·try simp only [nrm] at h15
   refine TO.guard_false (s := 65) (b' := false) rfl rfl nofun ?_
   refine TO.guard_false (s := 65) (b' := false) rfl rfl nofun ?_
   refine TO.guard_false (s := 65) (b' := false) rfl rfl nofun ?_
   refine TO.guard_false (s := 65) (b' := false) rfl rfl nofun ?_
   refine TO.guard_false (s := 65) (b' := false) rfl rfl nofun ?_
   refine TO.guard_false (s := 65) (b' := false) rfl rfl nofun ?_
   refine TO.guard_false (s := 65) (b' := false) rfl rfl nofun ?_
   refine TO.guard_false (s := 65) (b' := false) rfl rfl nofun ?_
   refine rdx (rd_pick_false (v := .bool _) rfl rfl) ?_
   refine TO.nil (TQ.then_normal ?_)
   refine T.cond_false rfl ?_
   refine T.skip (TQ.block_normal (TQ.then_normal (T.region ?_)))
   refine rdx (rd_add rfl rfl (w64 (by first | omega | (simp only [List.length_cons, List.length_nil]; omega)) (by first | omega | (simp only [List.length_cons, List.length_nil]; omega)))) ?_
   refine rdx (rd_move (v := .int _ _) rfl) ?_
   refine TO.nil ?_
   refine TQ.againk (q + 1) ?_ ?_ (And.intro (rfl) (trivial)) (And.intro (rfl) (And.intro (rfl) (And.intro (rfl) (And.intro (rfl) (And.intro (rfl) (And.intro (rfl) (And.intro (rfl) (And.intro (rfl) (And.intro (rfl) (And.intro (rfl) (And.intro (rfl) (trivial)))))))))))) (fun _ _ h => h.sel (js := [1, 2, 3, 4, 5, 6]) (by decide))
   ·first | omega | (dsimp only; omega)
   ·first | omega | (dsimp only; omega)
  try simp only [nrm] at h15
  refine TO.guard_true (s := 65) rfl rfl ?_
  refine rdx (rd_move (v := .slice _ _ _) rfl) ?_
  refine TO.guard_true (s := 65) rfl rfl ?_
  refine rdx (rd_load_agg (cs := #[.int _ _, .int _ _, .int _ _, .int _ _, .int _ _, .int _ _, .int _ _, .int _ _, .string _]) Tryz.agg30 rfl (Has.own 2 rfl) rfl rfl) ?_
  refine TO.guard_true (s := 65) rfl rfl ?_
  refine rdx (rd_move (v := .slice _ _ _) rfl) ?_
  refine TO.guard_true (s := 65) rfl rfl ?_
  refine rdx (rd_ixa 0 Tryz.under22 Tryz.size3 rfl rfl rfl (by decide)) ?_
  refine TO.guard_true (s := 65) rfl rfl ?_
  refine rdx (rd_load (v := .int _ _) Tryz.one3 rfl (Has.own 0 rfl) rfl) ?_
  refine TO.guard_true (s := 65) rfl rfl ?_
  refine rdx (rd_ixa 1 Tryz.under22 Tryz.size3 rfl rfl rfl (by decide)) ?_
  refine TO.guard_true (s := 65) rfl rfl ?_
  refine rdx (rd_load (v := .int _ _) Tryz.one3 rfl (Has.own 0 rfl) rfl) ?_
  refine TO.guard_true (s := 65) rfl rfl ?_
  refine TO.fn Tryz.enters15 (c_wish_Valid _ _ _ (keysN 10) (by first | rfl | simp | omega) (v) _ _ _ (madeL u) (by first | rfl | simp | omega) (([((madeW u).rlo, (madeW u).slo), (v.rlo, v.slo), (IntKind.i64.wrap (v.rhi - 1), IntKind.i64.wrap (v.shi - 1))][q]'hq3).1) (([((madeW u).rlo, (madeW u).slo), (v.rlo, v.slo), (IntKind.i64.wrap (v.rhi - 1), IntKind.i64.wrap (v.shi - 1))][q]'hq3).2) (by first | omega | assumption | (simp only [keysN_len]; omega) | (simp only [List.length_drop, List.length_take, List.length_set, keysN_len]; omega)) (by first | omega | assumption | (simp; done) | (simp only [List.length_drop, List.length_take, List.length_append]; omega))) rfl (ReadsC (Has.arg 0 rfl) (ReadsC (row_slc' (e := eStr) (xs := (keysN 10)) (fun _ => rfl) (by first | rfl | omega | simp) (rfl) (Has.own 3 rfl)) (ReadsC (row_slc' (e := proxyL) (xs := (madeL u)) (fun _ => rfl) (rfl) (rfl) (Has.own 5 rfl)) Reads0))) ?_
  refine rdx (rd_pick_true (v := .bool _) rfl rfl) ?_
  refine TO.nil (TQ.then_normal ?_)
  refine T.cond_ft rfl (fun h16 => ?_) (fun h16 => ?_)
  ·try simp only [nrm] at h16
   refine T.skip (TQ.block_normal (TQ.then_normal (T.region ?_)))
   refine rdx (rd_add rfl rfl (w64 (by first | omega | (simp only [List.length_cons, List.length_nil]; omega)) (by first | omega | (simp only [List.length_cons, List.length_nil]; omega)))) ?_
   refine rdx (rd_move (v := .int _ _) rfl) ?_
   refine TO.nil ?_
   refine TQ.againk (q + 1) ?_ ?_ (And.intro (rfl) (trivial)) (And.intro (rfl) (And.intro (rfl) (And.intro (rfl) (And.intro (rfl) (And.intro (rfl) (And.intro (rfl) (And.intro (rfl) (And.intro (rfl) (And.intro (rfl) (And.intro (rfl) (And.intro (rfl) (trivial)))))))))))) (fun _ _ h => h.sel (js := [1, 2, 3, 4, 5, 6]) (by decide))
   ·first | omega | (dsimp only; omega)
   ·first | omega | (dsimp only; omega)
  try simp only [nrm] at h16
  refine T.seq ?_
  refine T.drawg Tryz.mixes 26 [(75, 0), (76, 1), (77, 2), (78, 3), (79, 4), (80, 5), (81, 6), (82, 7), (83, 8), (84, 9), (85, 10), (86, 11), (87, 12), (88, 13), (89, 14), (90, 15), (91, 16), (92, 17), (93, 18), (94, 19), (95, 20), (96, 21), (97, 22), (98, 23), (99, 24), (100, 25)] [0, 1, 3, 7, 15, 31, 15, 79, 255, 511, 1023, 2047, 2047, 6143, 16383, 32767, 2047, 67583, 262143, 2047, 2047, 1050623, 3672063, 7866367, 2047, 17301503, 67108863, 134217727, 268435455, 536870911] [18] (by kernel_rfl) ?_
  refine DG.rd rfl rfl rfl (fun _ _ => rd_fieldAddr Tryz.field30_0 rfl) ?_
  have gd := good_of h16
  have hvn : ¬ v = madeW u := by simpa using h15
  obtain ⟨s1, s2, -⟩ := gd.sign
  refine DG.rd rfl rfl rfl (fun _ _ => rd_load (v := .int _ _) Tryz.one3 rfl (Has.own 2 rfl) rfl) ?_
  refine DG.rd rfl rfl rfl (fun _ _ => rd_b (b := false) (rd_lss rfl rfl) (by first | exact decide_eq_false (by omega) | (rw [bne_eq_false_iff_eq]; omega) | (simp; done) | (simp; omega))) ?_
  refine DG.rd rfl rfl rfl (fun _ _ => rd_move (v := .bool _) rfl) ?_
  refine DG.rdg rfl rfl rfl (fun _ _ => rfl) (fun _ _ => rd_fieldAddr Tryz.field30_0 rfl) ?_
  refine DG.rdg rfl rfl rfl (fun _ _ => rfl) (fun _ _ => rd_load (v := .int _ _) Tryz.one3 rfl (Has.own 2 rfl) rfl) ?_
  refine DG.rdg rfl rfl rfl (fun _ _ => rfl) (fun _ _ => rd_move (v := .slice _ _ _) rfl) ?_
  refine DG.rdg rfl rfl rfl (fun _ _ => rfl) (fun _ _ => rd_lensl Tryz.under32 rfl) ?_
  refine DG.rdg rfl rfl rfl (fun _ _ => rfl) (fun _ _ => rd_b (b := false) (rd_geq rfl rfl) (by first | exact decide_eq_false (by omega) | (rw [bne_eq_false_iff_eq]; omega) | (simp; done) | (simp; omega))) ?_
  refine DG.rd rfl rfl rfl (fun _ _ => rd_pick_false (v := .bool _) rfl rfl) ?_
  refine DG.rd rfl rfl rfl (fun _ _ => rd_move (v := .bool _) rfl) ?_
  refine DG.rdg rfl rfl rfl (fun _ _ => rfl) (fun _ _ => rd_move (v := .slice _ _ _) rfl) ?_
  refine DG.rdg rfl rfl rfl (fun _ _ => rfl) (fun _ _ => rd_fieldAddr Tryz.field30_0 rfl) ?_
  refine DG.rdg rfl rfl rfl (fun _ _ => rfl) (fun _ _ => rd_load (v := .int _ _) Tryz.one3 rfl (Has.own 4 rfl) rfl) ?_
  refine DG.rdg rfl rfl rfl (fun _ _ => rfl) (fun _ _ => rd_ix (k := (madeW u).signer.toNat) Tryz.under32 Tryz.size9 rfl rfl (row_slc' (e := eStr) (xs := (keysN 10)) (fun _ => rfl) (by first | rfl | omega | simp) (rfl) (Has.own 3 rfl)) (by omega) (by first | omega | (simp only [List.length_cons, List.length_nil]; omega)) (by first | omega | (simp only [List.length_cons, List.length_nil]; omega))) ?_
  refine DG.rdg rfl rfl rfl (fun _ _ => rfl) (fun _ _ => rd_el (v := .string _) (madeW u).signer.toNat 0 Tryz.one9 rfl (row_slc' (e := eStr) (xs := (keysN 10)) (fun _ => rfl) (by first | rfl | omega | simp) (rfl) (Has.own 3 rfl)) rfl (by first | omega | (simp only [List.length_cons, List.length_nil]; omega)) (Nat.le_of_ble_eq_true rfl) rfl) ?_
  refine DG.rdg rfl rfl rfl (fun _ _ => rfl) (fun _ _ => rd_load_agg (cs := #[.int _ _, .int _ _, .int _ _, .int _ _, .int _ _, .int _ _, .int _ _, .int _ _, .string _]) Tryz.agg30 rfl (Has.own 4 rfl) rfl rfl) ?_
  have hkA : ((keysN 10)[(madeW u).signer.toNat]'(by rw [keysN_len]; omega)).length = 32 := by rw [keysN_el]; exact keyB_len _
  have hkB : ((keysN 10)[v.signer.toNat]'(by rw [keysN_len]; omega)).length = 32 := by rw [keysN_el]; exact keyB_len _
  have hh1 := hashed_le ((keysN 10)[(madeW u).signer.toNat]'(by rw [keysN_len]; omega)) (wishText (madeW u)) (by omega) (by omega)
  have hh2 := hashed_le ((keysN 10)[v.signer.toNat]'(by rw [keysN_len]; omega)) (wishText v) (by omega) (by omega)
  refine DG.fng rfl rfl rfl (fun _ _ => rfl) Tryz.enters35 (c_ref15_WishContent (madeW u)) (fun _ _ => rfl) Reads0 ?_
  refine DG.fnxg rfl rfl rfl (fun _ _ => rfl) Tryz.enters34 (c_ref15_Hashed (((keysN 10)[(madeW u).signer.toNat]'(by rw [keysN_len]; omega))) (wishText (madeW u)) (by first | omega | exact wishText_le _ | exact proxyText_le _ | exact puts3_le _ _ _ | (simp only [List.length_append, List.length_cons, List.length_nil, sha_len, leafOf_len, nodeOf_len, sealOf_len, List.length_take, List.length_drop]; omega) | (rw [keyB_len]; omega)) (by first | omega | exact wishText_le _ | exact proxyText_le _ | exact puts3_le _ _ _ | (simp only [List.length_append, List.length_cons, List.length_nil, sha_len, leafOf_len, nodeOf_len, sealOf_len, List.length_take, List.length_drop]; omega) | (rw [keyB_len]; omega))) (fun _ _ => rfl) Reads0 ?_
  refine DG.rdg rfl rfl rfl (fun _ _ => rfl) (fun _ _ => rd_move (v := .slice _ _ _) rfl) ?_
  refine DG.rdg rfl rfl rfl (fun _ _ => rfl) (fun _ _ => rd_fieldAddr Tryz.field30_0 rfl) ?_
  refine DG.rdg rfl rfl rfl (fun _ _ => rfl) (fun _ _ => rd_load (v := .int _ _) Tryz.one3 rfl (Has.own 2 rfl) rfl) ?_
  refine DG.rdg rfl rfl rfl (fun _ _ => rfl) (fun _ _ => rd_ix (k := v.signer.toNat) Tryz.under32 Tryz.size9 rfl rfl (row_slc' (e := eStr) (xs := (keysN 10)) (fun _ => rfl) (by first | rfl | omega | simp) (rfl) (Has.own 3 rfl)) (by omega) (by first | omega | (simp only [List.length_cons, List.length_nil]; omega)) (by first | omega | (simp only [List.length_cons, List.length_nil]; omega))) ?_
  refine DG.rdg rfl rfl rfl (fun _ _ => rfl) (fun _ _ => rd_el (v := .string _) v.signer.toNat 0 Tryz.one9 rfl (row_slc' (e := eStr) (xs := (keysN 10)) (fun _ => rfl) (by first | rfl | omega | simp) (rfl) (Has.own 3 rfl)) rfl (by first | omega | (simp only [List.length_cons, List.length_nil]; omega)) (Nat.le_of_ble_eq_true rfl) rfl) ?_
  refine DG.rdg rfl rfl rfl (fun _ _ => rfl) (fun _ _ => rd_load_agg (cs := #[.int _ _, .int _ _, .int _ _, .int _ _, .int _ _, .int _ _, .int _ _, .int _ _, .string _]) Tryz.agg30 rfl (Has.own 2 rfl) rfl rfl) ?_
  refine DG.fng rfl rfl rfl (fun _ _ => rfl) Tryz.enters35 (c_ref15_WishContent (v)) (fun _ _ => rfl) Reads0 ?_
  refine DG.done rfl (by decide) rfl (fun gh18 => ?_)
  refine TO.guard_true (s := 85) rfl rfl ?_
  refine TO.fnx Tryz.enters34 (c_ref15_Hashed (((keysN 10)[v.signer.toNat]'(by rw [keysN_len]; omega))) (wishText v) (by first | omega | exact wishText_le _ | exact proxyText_le _ | exact puts3_le _ _ _ | (simp only [List.length_append, List.length_cons, List.length_nil, sha_len, leafOf_len, nodeOf_len, sealOf_len, List.length_take, List.length_drop]; omega) | (rw [keyB_len]; omega)) (by first | omega | exact wishText_le _ | exact proxyText_le _ | exact puts3_le _ _ _ | (simp only [List.length_append, List.length_cons, List.length_nil, sha_len, leafOf_len, nodeOf_len, sealOf_len, List.length_take, List.length_drop]; omega) | (rw [keyB_len]; omega))) rfl Reads0 (fun ⟨A19, cap20⟩ hx21 => ?_)
  refine TO.guard_true (s := 85) rfl rfl ?_
  refine TO.fn Tryz.enters33 (cv_b (c_ref02_Collided _ _ _ (hashed ((keysN 10)[(madeW u).signer.toNat]'(by rw [keysN_len]; omega)) (wishText (madeW u))) (by first | rfl | simp | omega) _ _ _ (hashed ((keysN 10)[v.signer.toNat]'(by rw [keysN_len]; omega)) (wishText v)) (by first | rfl | simp | omega) (by simp [hashed]) (by simp [hashed]) hh1 hh2) (M.bind gd hvs hvn)) rfl (ReadsC (row_slc' (e := eStr) (xs := (hashed ((keysN 10)[(madeW u).signer.toNat]'(by rw [keysN_len]; omega)) (wishText (madeW u)))) (fun _ => rfl) (rfl) (rfl) (Has.own 1 rfl)) (ReadsC (row_slc' (e := eStr) (xs := (hashed ((keysN 10)[v.signer.toNat]'(by rw [keysN_len]; omega)) (wishText v))) (fun _ => rfl) (rfl) (rfl) (Has.own 0 rfl)) Reads0)) ?_
  refine TO.guard_true (s := 85) rfl rfl ?_
  refine rdx (rd_not rfl) ?_
  refine rdx (rd_pick_false (v := .bool _) rfl rfl) ?_
  refine TO.nil (TQ.then_normal ?_)
  refine T.cond_false rfl ?_
  refine T.skip (TQ.block_normal (TQ.then_normal (T.region ?_)))
  refine rdx (rd_add rfl rfl (w64 (by first | omega | (simp only [List.length_cons, List.length_nil]; omega)) (by first | omega | (simp only [List.length_cons, List.length_nil]; omega)))) ?_
  refine rdx (rd_move (v := .int _ _) rfl) ?_
  refine TO.nil ?_
  refine TQ.againk (q + 1) ?_ ?_ (And.intro (rfl) (trivial)) (And.intro (rfl) (And.intro (rfl) (And.intro (rfl) (And.intro (rfl) (And.intro (rfl) (And.intro (rfl) (And.intro (rfl) (And.intro (rfl) (And.intro (rfl) (And.intro (rfl) (And.intro (rfl) (trivial)))))))))))) (fun _ _ h => h.sel (js := [3, 4, 5, 6, 7, 8]) (by decide))
  ·first | omega | (dsimp only; omega)
  ·first | omega | (dsimp only; omega)
 try simp only [nrm] at h13
 refine T.exit (TQ.then_exit (TQ.then_exit (TQ.block_out (TQ.then_normal (T.seq (T.seq (T.region ?_)))))))
 refine rdx (rd_move (v := .slice _ _ _) rfl) ?_
 refine rdx (rd_lensl Tryz.under31 rfl) ?_
 refine rdx (rd_eql rfl rfl) ?_
 refine TO.nil (TQ.then_normal ?_)
 refine T.cond rfl (fun h23 => ?_) (fun h23 => ?_)
 ·try simp only [nrm] at h23
  refine T.seq (T.region ?_)
  refine rdx (rd_move (v := .bool _) rfl) ?_
  refine rdx (rd_assign (v := .bool _) rfl) ?_
  refine TO.nil (TQ.then_normal (T.ret (TQ.then_ret ?_)))
  refine TQ.value ?_ (res1 Tryz.results5 (Res.tmp (v := .bool _) rfl)) _ (.inl rfl)
  rfl
 try simp only [nrm] at h23
 refine T.skip (TQ.then_normal (T.seq (T.region ?_)))
 refine rdx (rd_move (v := .int _ _) rfl) ?_
 refine rdx (rd_move (v := .slice _ _ _) rfl) ?_
 refine rdx (rd_lensl Tryz.under31 rfl) ?_
 have q1 := pickN_lo (c := at_) (n := ((madeL u).length : Int)) (by omega)
 have q2 := pickN_hi (c := at_) (n := ((madeL u).length : Int)) (by omega)
 refine TO.fn Tryz.enters9 (c_law15_pick _ _ (by omega) (by omega) (by omega) (by omega)) rfl Reads0 ?_
 obtain ⟨k, hk⟩ : ∃ k : Nat, pickN at_ ((madeL u).length : Int) = (k : Int) := ⟨_, (Int.toNat_of_nonneg q1).symm⟩
 rw [hk]
 have hkl : k < (madeL u).length := by omega
 obtain ⟨h9a, h9b, -, -, h9c, h9d⟩ := M.nine _ (List.getElem_mem hkl)
 have hpt := proxyText_len ((madeL u)[k]'hkl)
 refine rdx (rd_assign (v := .int _ _) rfl) ?_
 refine TO.nil (TQ.then_normal (T.seq (T.region ?_)))
 refine TO.buildS (cs := []) Tryz.under31 Tryz.size40 Tryz.zero40 (Nat.le_of_ble_eq_true rfl) rfl (fun b24 => ?_)
 refine rdx (rd_move (v := .slice _ _ _) rfl) ?_
 refine TO.torow0 7 0 rfl (by decide) ?_
 refine TO.appq (en := proxyL) (xs := (madeL u)) Tryz.trow40 Tryz.under31 (.inl ⟨_, Tryz.under31⟩) rfl rfl (by first | rfl | (simp only [List.length_drop, List.length_take]; omega)) (fun _ => rfl) (row_slc' (e := proxyL) (xs := (madeL u)) (fun _ => rfl) (rfl) (rfl) (Has.own 5 rfl)) (flatMap_one (e := proxyL) (fun _ => rfl) _) (by omega) (fun A25 c26 hc27 => ?_)
 refine rdx (rd_assign (v := .slice _ _ _) rfl) ?_
 refine TO.nil (TQ.then_normal (T.seq (T.region ?_)))
 refine rdx (rd_move (v := .slice _ _ _) rfl) ?_
 refine rdx (rd_move (v := .int _ _) rfl) ?_
 refine rdx (rd_move (v := .slice _ _ _) rfl) ?_
 refine rdx (rd_move (v := .int _ _) rfl) ?_
 refine rdx (rd_ix (k := k) Tryz.under31 Tryz.size40 rfl rfl (row_slc' (e := proxyL) (xs := (madeL u)) (fun _ => rfl) (rfl) (rfl) (Has.own 5 rfl)) rfl (by first | omega | (simp only [List.length_cons, List.length_nil]; omega)) (by first | omega | (simp only [List.length_cons, List.length_nil]; omega))) ?_
 refine rdx (rd_ela (cs := [.int _ _, .int _ _, .int _ _, .int _ _, .int _ _, .int _ _, .string _]) k 0 Tryz.agg40 rfl (row_slc' (e := proxyL) (xs := (madeL u)) (fun _ => rfl) (rfl) (rfl) (Has.own 5 rfl)) rfl (by first | omega | (simp only [List.length_cons, List.length_nil]; omega)) (Nat.le_of_ble_eq_true rfl) rfl rfl rfl) ?_
 refine rdx (rd_move (v := .int _ _) rfl) ?_
 refine rdx (rd_move (v := .int _ _) rfl) ?_
 refine TO.fn Tryz.enters10 (c_ref15_BentProxy (((madeL u)[k]'hkl)) (how) (n) (by omega) (by omega) (by omega) (by omega)) rfl Reads0 ?_
 obtain ⟨pv, hpv⟩ : ∃ pv, pv = bendP ((madeL u)[k]'hkl) how n := ⟨_, rfl⟩
 rw [← hpv]
 refine rdx (rd_move (v := .tuple _) rfl) ?_
 refine rdx (rd_extract (v := .agg _) (vs := _) rfl rfl) ?_
 refine rdx (rd_extract (v := .bool _) (vs := _) rfl rfl) ?_
 refine rdx (rd_ix (k := k) Tryz.under31 Tryz.size40 rfl rfl (row_slc' (e := proxyL) (xs := (madeL u)) (fun _ => rfl) (by simp) (by simp) (Has.own 0 rfl)) rfl (by first | omega | (simp only [List.length_cons, List.length_nil]; omega)) (by first | omega | (simp only [List.length_cons, List.length_nil]; omega))) ?_
 refine TO.rowset (i := k) (cs' := ((madeL u).set k pv).flatMap proxyL) Tryz.size40 rfl rfl rfl (by omega) rfl (set_flatP (by omega)) ?_
 obtain ⟨mm, hmm⟩ : ∃ mm, mm = (madeL u).set k pv := ⟨_, rfl⟩
 rw [← hmm]
 have hml : mm.length = (madeL u).length := by rw [hmm, List.length_set]
 have hkm : k < mm.length := by omega
 have hget : mm[k]'hkm = pv := by subst hmm; simp
 have hms : (mm[k]'hkm).sig = ((madeL u)[k]'hkl).sig := by rw [hget, hpv]; exact bendP_sig _ _ _
 have hpm := proxyText_len (mm[k]'hkm)
 refine rdx (rd_assign (v := .bool _) rfl) ?_
 refine TO.nil (TQ.then_normal (T.seq (T.seq (T.region ?_))))
 refine rdx (rd_move (v := .bool _) rfl) ?_
 refine rdx (rd_move (v := .bool _) rfl) ?_
 refine TO.decide_ft (s := 131) rfl (fun h28 => ?_) (fun h28 => ?_)
 ·try simp only [nrm] at h28
  refine TO.guard_false (s := 131) (b' := false) rfl rfl nofun ?_
  refine TO.guard_false (s := 131) (b' := false) rfl rfl nofun ?_
  refine TO.guard_false (s := 131) (b' := false) rfl rfl nofun ?_
  refine TO.guard_false (s := 131) (b' := false) rfl rfl nofun ?_
  refine TO.guard_false (s := 131) (b' := false) rfl rfl nofun ?_
  refine TO.guard_false (s := 131) (b' := false) rfl rfl nofun ?_
  refine TO.guard_false (s := 131) (b' := false) rfl rfl nofun ?_
  refine TO.guard_false (s := 131) (b' := false) rfl rfl nofun ?_
  refine TO.guard_false (s := 131) (b' := false) rfl rfl nofun ?_
  refine TO.guard_false (s := 131) (b' := false) rfl rfl nofun ?_
  refine rdx (rd_pick_false (v := .bool _) rfl rfl) ?_
  refine TO.nil (TQ.then_normal ?_)
  refine T.cond_false rfl ?_
  refine T.skip (TQ.then_normal (T.seq (T.region ?_)))
  refine rdx (rd_move (v := .bool _) rfl) ?_
  refine rdx (rd_assign (v := .bool _) rfl) ?_
  refine TO.nil (TQ.then_normal (T.ret ?_))
  refine TQ.value ?_ (res1 Tryz.results5 (Res.tmp (v := .bool _) rfl)) _ (.inl rfl)
  rfl
 try simp only [nrm] at h28
 refine TO.guard_true (s := 131) rfl rfl ?_
 refine rdx (rd_move (v := .slice _ _ _) rfl) ?_
 refine TO.guard_true (s := 131) rfl rfl ?_
 refine rdx (rd_load_agg (cs := #[.int _ _, .int _ _, .int _ _, .int _ _, .int _ _, .int _ _, .int _ _, .int _ _, .string _]) Tryz.agg30 rfl (Has.own 4 rfl) rfl rfl) ?_
 refine TO.guard_true (s := 131) rfl rfl ?_
 refine rdx (rd_move (v := .slice _ _ _) rfl) ?_
 refine TO.guard_true (s := 131) rfl rfl ?_
 refine rdx (rd_fieldAddr Tryz.field30_2 rfl) ?_
 refine TO.guard_true (s := 131) rfl rfl ?_
 refine rdx (rd_fieldAddr Tryz.field27_0 rfl) ?_
 refine TO.guard_true (s := 131) rfl rfl ?_
 refine rdx (rd_load (v := .int _ _) Tryz.one3 rfl (Has.own 4 rfl) rfl) ?_
 refine TO.guard_true (s := 131) rfl rfl ?_
 refine rdx (rd_fieldAddr Tryz.field30_5 rfl) ?_
 refine TO.guard_true (s := 131) rfl rfl ?_
 refine rdx (rd_fieldAddr Tryz.field28_0 rfl) ?_
 refine TO.guard_true (s := 131) rfl rfl ?_
 refine rdx (rd_load (v := .int _ _) Tryz.one3 rfl (Has.own 4 rfl) rfl) ?_
 refine TO.guard_true (s := 131) rfl rfl ?_
 refine TO.fn Tryz.enters15 (c_wish_Valid _ _ _ (keysN 10) (by first | rfl | (rw [hmm, List.length_set]; omega)) (madeW u) _ _ _ mm (by first | rfl | (rw [hmm, List.length_set]; omega)) ((madeW u).rlo) ((madeW u).slo) (by first | omega | assumption | (simp only [keysN_len]; omega) | (simp only [List.length_drop, List.length_take, List.length_set, keysN_len]; omega)) (by first | omega | assumption | (simp; done) | (simp only [List.length_drop, List.length_take, List.length_append]; omega))) rfl (ReadsC (Has.arg 0 rfl) (ReadsC (row_slc' (e := eStr) (xs := (keysN 10)) (fun _ => rfl) (by first | rfl | omega | simp) (rfl) (Has.own 3 rfl)) (ReadsC (row_slc' (e := proxyL) (xs := mm) (fun _ => rfl) (by rw [hmm, List.length_set]; omega) (rfl) (Has.own 0 rfl)) Reads0))) ?_
 refine rdx (rd_pick_true (v := .bool _) rfl rfl) ?_
 refine TO.nil (TQ.then_normal ?_)
 refine T.cond_ft rfl (fun h29 => ?_) (fun h29 => ?_)
 ·try simp only [nrm] at h29
  refine T.skip (TQ.then_normal (T.seq (T.region ?_)))
  refine rdx (rd_move (v := .bool _) rfl) ?_
  refine rdx (rd_assign (v := .bool _) rfl) ?_
  refine TO.nil (TQ.then_normal (T.ret ?_))
  refine TQ.value ?_ (res1 Tryz.results5 (Res.tmp (v := .bool _) rfl)) _ (.inl rfl)
  rfl
 try simp only [nrm] at h29
 refine T.seq ?_
 refine T.drawg Tryz.mixes 44 [(143, 0), (144, 1), (145, 2), (146, 3), (147, 4), (148, 5), (149, 6), (150, 7), (151, 8), (152, 9), (153, 10), (154, 11), (155, 12), (156, 13), (157, 14), (158, 15), (159, 16), (160, 17), (161, 18), (162, 19), (163, 20), (164, 21), (165, 22), (166, 23), (167, 24), (168, 25), (169, 26), (170, 27), (171, 28), (172, 29), (173, 30), (174, 31), (175, 32), (176, 33), (177, 34), (178, 35), (179, 36), (180, 37), (181, 38), (182, 39), (183, 40), (184, 41), (185, 42), (186, 43)] [0, 0, 3, 7, 15, 31, 63, 127, 127, 511, 1023, 2047, 127, 4223, 16383, 32767, 65535, 131071, 131071, 131071, 917503, 1966079, 4063231, 8388607, 16777215, 131071, 131071, 100794367, 235012095, 503447551, 1073741823, 131071, 131071, 131071, 12885032959, 30064902143, 64424640511, 135291600895, 272730554367, 131071, 131071, 1649267572735, 3848290828287, 8248484691967, 17592186044415, 35184372088831, 70368744177663, 140737488355327] [30] (by kernel_rfl) ?_
 refine DG.rd rfl rfl rfl (fun _ _ => rd_move (v := .slice _ _ _) rfl) ?_
 have gd := good_of h29
 have hmn : ¬ mm[k]'hkm = (madeL u)[k]'hkl := by rw [hget]; simpa using h28
 obtain ⟨⟨s1, s2⟩, -, -⟩ := gd.signP hkm
 refine DG.rd rfl rfl rfl (fun _ _ => rd_move (v := .int _ _) rfl) ?_
 refine DG.rd rfl rfl rfl (fun _ _ => rd_ix (k := k) Tryz.under31 Tryz.size40 rfl rfl (row_slc' (e := proxyL) (xs := mm) (fun _ => rfl) (by rw [hmm, List.length_set]; omega) (rfl) (Has.own 0 rfl)) rfl (by first | omega | (simp only [List.length_cons, List.length_nil]; omega)) (by first | omega | (simp only [List.length_cons, List.length_nil]; omega))) ?_
 refine DG.rd rfl rfl rfl (fun _ _ => rd_ixf Tryz.field40_0 rfl (row_slc' (e := proxyL) (xs := mm) (fun _ => rfl) (by rw [hmm, List.length_set]; omega) (rfl) (Has.own 0 rfl)) (by first | omega | (simp only [List.length_cons, List.length_nil]; omega))) ?_
 refine DG.rd rfl rfl rfl (fun _ _ => rd_el (v := .int _ _) k 0 Tryz.one3 rfl (row_slc' (e := proxyL) (xs := mm) (fun _ => rfl) (by rw [hmm, List.length_set]; omega) (rfl) (Has.own 0 rfl)) rfl (by first | omega | (simp only [List.length_cons, List.length_nil]; omega)) (Nat.le_of_ble_eq_true rfl) rfl) ?_
 refine DG.rd rfl rfl rfl (fun _ _ => rd_b (b := true) (rd_geq rfl rfl) (by exact decide_eq_true (by omega))) ?_
 refine DG.rd rfl rfl rfl (fun _ _ => rd_move (v := .bool _) rfl) ?_
 refine DG.rdg rfl rfl rfl (fun _ _ => rfl) (fun _ _ => rd_move (v := .slice _ _ _) rfl) ?_
 refine DG.rdg rfl rfl rfl (fun _ _ => rfl) (fun _ _ => rd_move (v := .int _ _) rfl) ?_
 refine DG.rdg rfl rfl rfl (fun _ _ => rfl) (fun _ _ => rd_ix (k := k) Tryz.under31 Tryz.size40 rfl rfl (row_slc' (e := proxyL) (xs := mm) (fun _ => rfl) (by rw [hmm, List.length_set]; omega) (rfl) (Has.own 0 rfl)) rfl (by first | omega | (simp only [List.length_cons, List.length_nil]; omega)) (by first | omega | (simp only [List.length_cons, List.length_nil]; omega))) ?_
 refine DG.rdg rfl rfl rfl (fun _ _ => rfl) (fun _ _ => rd_ixf Tryz.field40_0 rfl (row_slc' (e := proxyL) (xs := mm) (fun _ => rfl) (by rw [hmm, List.length_set]; omega) (rfl) (Has.own 0 rfl)) (by first | omega | (simp only [List.length_cons, List.length_nil]; omega))) ?_
 refine DG.rdg rfl rfl rfl (fun _ _ => rfl) (fun _ _ => rd_el (v := .int _ _) k 0 Tryz.one3 rfl (row_slc' (e := proxyL) (xs := mm) (fun _ => rfl) (by rw [hmm, List.length_set]; omega) (rfl) (Has.own 0 rfl)) rfl (by first | omega | (simp only [List.length_cons, List.length_nil]; omega)) (Nat.le_of_ble_eq_true rfl) rfl) ?_
 refine DG.rdg rfl rfl rfl (fun _ _ => rfl) (fun _ _ => rd_move (v := .slice _ _ _) rfl) ?_
 refine DG.rdg rfl rfl rfl (fun _ _ => rfl) (fun _ _ => rd_lensl Tryz.under32 rfl) ?_
 refine DG.rdg rfl rfl rfl (fun _ _ => rfl) (fun _ _ => rd_b (b := true) (rd_lss rfl rfl) (by exact decide_eq_true (by omega))) ?_
 refine DG.rd rfl rfl rfl (fun _ _ => rd_pick_true (v := .bool _) rfl rfl) ?_
 refine DG.rd rfl rfl rfl (fun _ _ => rd_move (v := .bool _) rfl) ?_
 refine DG.rdg rfl rfl rfl (fun _ _ => rfl) (fun _ _ => rd_move (v := .slice _ _ _) rfl) ?_
 have hkA : ((keysN 10)[((madeL u)[k]'hkl).frm.toNat]'(by rw [keysN_len]; omega)).length = 32 := by rw [keysN_el]; exact keyB_len _
 have hkB : ((keysN 10)[(mm[k]'hkm).frm.toNat]'(by rw [keysN_len]; omega)).length = 32 := by rw [keysN_el]; exact keyB_len _
 have hh1 := hashed_le ((keysN 10)[((madeL u)[k]'hkl).frm.toNat]'(by rw [keysN_len]; omega)) (proxyText ((madeL u)[k]'hkl)) (by omega) (by omega)
 have hh2 := hashed_le ((keysN 10)[(mm[k]'hkm).frm.toNat]'(by rw [keysN_len]; omega)) (proxyText (mm[k]'hkm)) (by omega) (by omega)
 refine DG.rdg rfl rfl rfl (fun _ _ => rfl) (fun _ _ => rd_move (v := .slice _ _ _) rfl) ?_
 refine DG.rdg rfl rfl rfl (fun _ _ => rfl) (fun _ _ => rd_move (v := .int _ _) rfl) ?_
 refine DG.rdg rfl rfl rfl (fun _ _ => rfl) (fun _ _ => rd_ix (k := k) Tryz.under31 Tryz.size40 rfl rfl (row_slc' (e := proxyL) (xs := (madeL u)) (fun _ => rfl) (rfl) (rfl) (Has.own 5 rfl)) rfl (by first | omega | (simp only [List.length_cons, List.length_nil]; omega)) (by first | omega | (simp only [List.length_cons, List.length_nil]; omega))) ?_
 refine DG.rdg rfl rfl rfl (fun _ _ => rfl) (fun _ _ => rd_ixf Tryz.field40_0 rfl (row_slc' (e := proxyL) (xs := (madeL u)) (fun _ => rfl) (rfl) (rfl) (Has.own 5 rfl)) (by first | omega | (simp only [List.length_cons, List.length_nil]; omega))) ?_
 refine DG.rdg rfl rfl rfl (fun _ _ => rfl) (fun _ _ => rd_el (v := .int _ _) k 0 Tryz.one3 rfl (row_slc' (e := proxyL) (xs := (madeL u)) (fun _ => rfl) (rfl) (rfl) (Has.own 5 rfl)) rfl (by first | omega | (simp only [List.length_cons, List.length_nil]; omega)) (Nat.le_of_ble_eq_true rfl) rfl) ?_
 refine DG.rdg rfl rfl rfl (fun _ _ => rfl) (fun _ _ => rd_ix (k := ((madeL u)[k]'hkl).frm.toNat) Tryz.under32 Tryz.size9 rfl rfl (row_slc' (e := eStr) (xs := (keysN 10)) (fun _ => rfl) (by first | rfl | omega | simp) (rfl) (Has.own 3 rfl)) (by omega) (by first | omega | (simp only [List.length_cons, List.length_nil]; omega)) (by first | omega | (simp only [List.length_cons, List.length_nil]; omega))) ?_
 refine DG.rdg rfl rfl rfl (fun _ _ => rfl) (fun _ _ => rd_el (v := .string _) ((madeL u)[k]'hkl).frm.toNat 0 Tryz.one9 rfl (row_slc' (e := eStr) (xs := (keysN 10)) (fun _ => rfl) (by first | rfl | omega | simp) (rfl) (Has.own 3 rfl)) rfl (by first | omega | (simp only [List.length_cons, List.length_nil]; omega)) (Nat.le_of_ble_eq_true rfl) rfl) ?_
 refine DG.rdg rfl rfl rfl (fun _ _ => rfl) (fun _ _ => rd_move (v := .slice _ _ _) rfl) ?_
 refine DG.rdg rfl rfl rfl (fun _ _ => rfl) (fun _ _ => rd_move (v := .int _ _) rfl) ?_
 refine DG.rdg rfl rfl rfl (fun _ _ => rfl) (fun _ _ => rd_ix (k := k) Tryz.under31 Tryz.size40 rfl rfl (row_slc' (e := proxyL) (xs := (madeL u)) (fun _ => rfl) (rfl) (rfl) (Has.own 5 rfl)) rfl (by first | omega | (simp only [List.length_cons, List.length_nil]; omega)) (by first | omega | (simp only [List.length_cons, List.length_nil]; omega))) ?_
 refine DG.rdg rfl rfl rfl (fun _ _ => rfl) (fun _ _ => rd_ela (cs := [.int _ _, .int _ _, .int _ _, .int _ _, .int _ _, .int _ _, .string _]) k 0 Tryz.agg40 rfl (row_slc' (e := proxyL) (xs := (madeL u)) (fun _ => rfl) (rfl) (rfl) (Has.own 5 rfl)) rfl (by first | omega | (simp only [List.length_cons, List.length_nil]; omega)) (Nat.le_of_ble_eq_true rfl) rfl rfl rfl) ?_
 refine DG.fng rfl rfl rfl (fun _ _ => rfl) Tryz.enters36 (c_ref15_ProxyContent (((madeL u)[k]'hkl))) (fun _ _ => rfl) Reads0 ?_
 refine DG.fnxg rfl rfl rfl (fun _ _ => rfl) Tryz.enters34 (c_ref15_Hashed (((keysN 10)[((madeL u)[k]'hkl).frm.toNat]'(by rw [keysN_len]; omega))) (proxyText ((madeL u)[k]'hkl)) (by first | omega | exact wishText_le _ | exact proxyText_le _ | exact puts3_le _ _ _ | (simp only [List.length_append, List.length_cons, List.length_nil, sha_len, leafOf_len, nodeOf_len, sealOf_len, List.length_take, List.length_drop]; omega) | (rw [keyB_len]; omega)) (by first | omega | exact wishText_le _ | exact proxyText_le _ | exact puts3_le _ _ _ | (simp only [List.length_append, List.length_cons, List.length_nil, sha_len, leafOf_len, nodeOf_len, sealOf_len, List.length_take, List.length_drop]; omega) | (rw [keyB_len]; omega))) (fun _ _ => rfl) Reads0 ?_
 refine DG.rdg rfl rfl rfl (fun _ _ => rfl) (fun _ _ => rd_move (v := .slice _ _ _) rfl) ?_
 refine DG.rdg rfl rfl rfl (fun _ _ => rfl) (fun _ _ => rd_move (v := .slice _ _ _) rfl) ?_
 refine DG.rdg rfl rfl rfl (fun _ _ => rfl) (fun _ _ => rd_move (v := .int _ _) rfl) ?_
 refine DG.rdg rfl rfl rfl (fun _ _ => rfl) (fun _ _ => rd_ix (k := k) Tryz.under31 Tryz.size40 rfl rfl (row_slc' (e := proxyL) (xs := mm) (fun _ => rfl) (by rw [hmm, List.length_set]; omega) (rfl) (Has.own 0 rfl)) rfl (by first | omega | (simp only [List.length_cons, List.length_nil]; omega)) (by first | omega | (simp only [List.length_cons, List.length_nil]; omega))) ?_
 refine DG.rdg rfl rfl rfl (fun _ _ => rfl) (fun _ _ => rd_ixf Tryz.field40_0 rfl (row_slc' (e := proxyL) (xs := mm) (fun _ => rfl) (by rw [hmm, List.length_set]; omega) (rfl) (Has.own 0 rfl)) (by first | omega | (simp only [List.length_cons, List.length_nil]; omega))) ?_
 refine DG.rdg rfl rfl rfl (fun _ _ => rfl) (fun _ _ => rd_el (v := .int _ _) k 0 Tryz.one3 rfl (row_slc' (e := proxyL) (xs := mm) (fun _ => rfl) (by rw [hmm, List.length_set]; omega) (rfl) (Has.own 0 rfl)) rfl (by first | omega | (simp only [List.length_cons, List.length_nil]; omega)) (Nat.le_of_ble_eq_true rfl) rfl) ?_
 refine DG.rdg rfl rfl rfl (fun _ _ => rfl) (fun _ _ => rd_ix (k := (mm[k]'hkm).frm.toNat) Tryz.under32 Tryz.size9 rfl rfl (row_slc' (e := eStr) (xs := (keysN 10)) (fun _ => rfl) (by first | rfl | omega | simp) (rfl) (Has.own 3 rfl)) (by omega) (by first | omega | (simp only [List.length_cons, List.length_nil]; omega)) (by first | omega | (simp only [List.length_cons, List.length_nil]; omega))) ?_
 refine DG.rdg rfl rfl rfl (fun _ _ => rfl) (fun _ _ => rd_el (v := .string _) (mm[k]'hkm).frm.toNat 0 Tryz.one9 rfl (row_slc' (e := eStr) (xs := (keysN 10)) (fun _ => rfl) (by first | rfl | omega | simp) (rfl) (Has.own 3 rfl)) rfl (by first | omega | (simp only [List.length_cons, List.length_nil]; omega)) (Nat.le_of_ble_eq_true rfl) rfl) ?_
 refine DG.rdg rfl rfl rfl (fun _ _ => rfl) (fun _ _ => rd_move (v := .slice _ _ _) rfl) ?_
 refine DG.rdg rfl rfl rfl (fun _ _ => rfl) (fun _ _ => rd_move (v := .int _ _) rfl) ?_
 refine DG.rdg rfl rfl rfl (fun _ _ => rfl) (fun _ _ => rd_ix (k := k) Tryz.under31 Tryz.size40 rfl rfl (row_slc' (e := proxyL) (xs := mm) (fun _ => rfl) (by rw [hmm, List.length_set]; omega) (rfl) (Has.own 0 rfl)) rfl (by first | omega | (simp only [List.length_cons, List.length_nil]; omega)) (by first | omega | (simp only [List.length_cons, List.length_nil]; omega))) ?_
 refine DG.rdg rfl rfl rfl (fun _ _ => rfl) (fun _ _ => rd_ela (cs := [.int _ _, .int _ _, .int _ _, .int _ _, .int _ _, .int _ _, .string _]) k 0 Tryz.agg40 rfl (row_slc' (e := proxyL) (xs := mm) (fun _ => rfl) (by rw [hmm, List.length_set]; omega) (rfl) (Has.own 0 rfl)) rfl (by first | omega | (simp only [List.length_cons, List.length_nil]; omega)) (Nat.le_of_ble_eq_true rfl) rfl rfl rfl) ?_
 refine DG.fng rfl rfl rfl (fun _ _ => rfl) Tryz.enters36 (c_ref15_ProxyContent ((mm[k]'hkm))) (fun _ _ => rfl) Reads0 ?_
 refine DG.done rfl (by decide) rfl (fun gh31 => ?_)
 refine TO.guard_true (s := 159) rfl rfl ?_
 refine TO.fnx Tryz.enters34 (c_ref15_Hashed (((keysN 10)[(mm[k]'hkm).frm.toNat]'(by rw [keysN_len]; omega))) (proxyText (mm[k]'hkm)) (by first | omega | exact wishText_le _ | exact proxyText_le _ | exact puts3_le _ _ _ | (simp only [List.length_append, List.length_cons, List.length_nil, sha_len, leafOf_len, nodeOf_len, sealOf_len, List.length_take, List.length_drop]; omega) | (rw [keyB_len]; omega)) (by first | omega | exact wishText_le _ | exact proxyText_le _ | exact puts3_le _ _ _ | (simp only [List.length_append, List.length_cons, List.length_nil, sha_len, leafOf_len, nodeOf_len, sealOf_len, List.length_take, List.length_drop]; omega) | (rw [keyB_len]; omega))) rfl Reads0 (fun ⟨A32, cap33⟩ hx34 => ?_)
 refine TO.guard_true (s := 159) rfl rfl ?_
 refine TO.fn Tryz.enters33 (cv_b (c_ref02_Collided _ _ _ (hashed ((keysN 10)[((madeL u)[k]'hkl).frm.toNat]'(by rw [keysN_len]; omega)) (proxyText ((madeL u)[k]'hkl))) (by first | rfl | simp | omega) _ _ _ (hashed ((keysN 10)[(mm[k]'hkm).frm.toNat]'(by rw [keysN_len]; omega)) (proxyText (mm[k]'hkm))) (by first | rfl | simp | omega) (by simp [hashed]) (by simp [hashed]) hh1 hh2) (M.bindP gd hkl hkm hms hmn)) rfl (ReadsC (row_slc' (e := eStr) (xs := (hashed ((keysN 10)[((madeL u)[k]'hkl).frm.toNat]'(by rw [keysN_len]; omega)) (proxyText ((madeL u)[k]'hkl)))) (fun _ => rfl) (rfl) (rfl) (Has.own 1 rfl)) (ReadsC (row_slc' (e := eStr) (xs := (hashed ((keysN 10)[(mm[k]'hkm).frm.toNat]'(by rw [keysN_len]; omega)) (proxyText (mm[k]'hkm)))) (fun _ => rfl) (rfl) (rfl) (Has.own 0 rfl)) Reads0)) ?_
 refine rdx (rd_pick_true (v := .bool _) rfl rfl) ?_
 refine rdx (rd_assign (v := .bool _) rfl) ?_
 refine TO.nil (TQ.then_normal (T.ret (TQ.then_ret ?_)))
 refine TQ.value ?_ (res1 Tryz.results5 (Res.tmp (v := .bool _) rfl)) _ (.inl rfl)
 rfl
end Go.Proofs
end
section
/- WishBinds: for every input the law returns true and the arguments read as they did (the tied card of the statement). Conditions: none beyond the card's own. -/
set_option linter.unusedVariables false
set_option linter.unusedSimpArgs false
set_option maxRecDepth 100000
namespace Go.Proofs.YtlcbpicpociipaaGreatDoor
open Go Go.TL Go.ChangeShapes Go.WideShapes Go.RowKit
theorem wishBinds_lifted (os : Os) (started : os.Started) (H : Type) (enc : TypeId × Value → H) : ReturnsInHanded {} Tryz.checked os 5 .any (fun w args => (Rows.wishBindsSpec.pre enc Tryz.prog Tryz.f5 [] false w args ∧ laidMetH Tryz.prog laidC w) ∧ sizedMet enc Tryz.prog Tryz.f5 (OpenSpec.ofChange Rows.wishBindsSpec) false w args) (Rows.wishBindsSpec.post enc Tryz.prog Tryz.f5 false true false false) := by
  refine returns_law (C := Tryz.checked) (k := 4) Tryz.own started (by kernel_rfl) Tryz.func5 Tryz.laidOut
    (ChangeSpec.witness_at (enc := enc) (C := Tryz.checked) (os := os) (X := fun w _ => laidMetH Tryz.prog laidC w) false (World.laidAll Tryz.prog os laidC) #[.agg #[.int .i64 0, .int .i64 0, .int .i64 0, .int .i64 0, .int .i64 0, .int .i64 0, .int .i64 0, .slice none 0 0], .int .i64 0, .int .i64 0, .int .i64 0] 8 (World.laidAll_os _ _ _) (by kernel_rfl) (by kernel_rfl) (by kernel_rfl) (by kernel_rfl) (by kernel_rfl) (by rw [MakeChecks.laidMetH_plain _ _ _ (by kernel_rfl)]; exact laidMet_laidAll _ (by kernel_rfl) (by kernel_rfl)))
    rfl Tryz.tyB (by kernel_rfl) rfl (by kernel_rfl) (fun ds h => ?_) ?_
  · match ds, h with
    | [d0, d1, d2, d3], _ => rfl
  · intro W base args ds p hval hA hL hsh
    have hp : Tryz.f5.params = #[25, 3, 3, 3] := Tryz.params5
    rw [hp] at hval hA
    obtain ⟨hlen, hget⟩ := args_of (params := [25, 3, 3, 3]) (fun j t v h1 h2 => hval j t v (by simpa using h1) h2) hA
    obtain ⟨v0, v1, v2, v3, hargs⟩ : ∃ v0 v1 v2 v3, args.toList = [v0, v1, v2, v3] := by
      match args.toList, hlen with
      | [v0, v1, v2, v3], _ => exact ⟨v0, v1, v2, v3, rfl⟩
    rw [hargs] at hget
    obtain rfl : args = #[v0, v1, v2, v3] := by rw [show args = args.toList.toArray from rfl, hargs]
    obtain ⟨u0, A0, m0, p0, rfl, hm0, hx0, hc0, hs0⟩ := Arg.nums Tryz.numTy (hget 0 25 v0 rfl rfl)
    obtain ⟨n1, rfl, h1⟩ := Arg.i64 Tryz.tyI (hget 1 3 v1 rfl rfl)
    obtain ⟨n2, rfl, h2⟩ := Arg.i64 Tryz.tyI (hget 2 3 v2 rfl rfl)
    obtain ⟨n3, rfl, h3⟩ := Arg.i64 Tryz.tyI (hget 3 3 v3 rfl rfl)
    refine ⟨_, c_law15_WishBinds u0 A0 m0 p0 hm0 hx0 hc0 n1 n2 n3 h1.1 h1.2 h3.1 h3.2, fun X hX => ?_⟩
    simp only [List.mem_cons, List.not_mem_nil, or_false] at hX
    rcases hX with rfl | rfl
    · exact glob_round hL hsh
    · exact hs0
theorem wishBinds_row : Rows.WishBindsSaid :=
  OpenClaim.holds_of_wide 5 Tryz.f5 rfl rfl rfl rfl rfl rfl rfl ⟨rfl, rfl, rfl, rfl, rfl⟩ rfl rfl rfl rfl rfl (by kernel_rfl) Tryz.func5 (by kernel_rfl)
    (of_decide_eq_true (by kernel_rfl)) (by unfold Func.isWrapper; rw [if_neg (of_decide_eq_false (by kernel_rfl))]; exact ⟨rfl, rfl⟩)
    (fun os started H enc _ => wishBinds_lifted os started H enc)
theorem wishBinds_card : Rows.WishBindsCardSaid :=
  Claim7.holds_tied_plain_at .later [] [.data] true (true, "5809412755c21f3e7c702fd83a83e5f0c203524499dd97c179ad62809b0b19aa") true wishBinds_row (fun _ h => by cases h) (by kernel_rfl) (fun _ h => by cases h) wishBinds_row_tie rfl ⟨rfl, rfl⟩ (by kernel_rfl) rfl
    (fun f fn hf hfn => by
      obtain rfl : f = 5 := Option.some.inj ((show Tryz.prog.funcNamed "dialtone/dialtonelaw15.WishBinds" = some 5 by kernel_rfl).symm.trans hf) |>.symm
      obtain rfl : fn = Tryz.f5 := (Option.some.inj (Tryz.func5.symm.trans hfn)).symm
      exact ⟨by kernel_rfl, fun j t ht => by
        rw [Tryz.params5] at ht
        have hm : t ∈ [25, 3, 3, 3] := by simpa using Array.mem_of_getElem? ht
        have hall : ([25, 3, 3, 3].all fun u => !Tryz.prog.wantsStandIn u) = true := by kernel_rfl
        exact (show Tryz.prog.wantsStandIn t = false by simpa using List.all_eq_true.1 hall t hm)⟩)
    (by kernel_rfl)
#print axioms wishBinds_card
end Go.Proofs.YtlcbpicpociipaaGreatDoor
end
