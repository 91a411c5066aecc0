/- What the proof of WishBinds leans on, part 4: a small program logic, plain facts, walks of functions. No statement of the seat is proved here. -/
import Derived.Test.YtlcbpicpociipaaGreatDoorB3
import Derived.Test.YtlcbpicpociipaaGreatDoorProg
section
set_option linter.unusedVariables false
set_option linter.unusedSimpArgs false
set_option maxRecDepth 100000
set_option maxHeartbeats 800000
namespace Go.Proofs
open Go.TL
attribute [local irreducible] Go.TL.T Go.TL.TO Go.TL.TQ
theorem c_words_add (bh : Nat) (h : H8) (A : Option Addr) (cap n : Nat) (b : List UInt8) (hn : n = b.length) (hb : b.length = 64) : Ctr Tryz.prog 110 #[.pointer (some ⟨bh, 0, none⟩), .slice A n cap] [glob 0 roundC 162, slc eByte 1 A b] [own bh (h8C h) 155] (γ := Unit) (fun _ => True) (fun _ => .tuple #[]) (fun _ => [own bh (h8C (shaBlock h b)) 155]) := by
 subst hn
 refine Ctr.intro Tryz.func110 rfl Tryz.ntmps110 (Nat.le_of_ble_eq_true rfl) fun S0 w0 => ?_
 refine T.seq (T.region ?_)
 refine rdx (rd_move (v := .slice _ _ _) rfl) ?_
 refine TO.fn Tryz.enters114 (c_schedule _ _ _ _ (by first | rfl | simp | omega) (by assumption)) rfl (ReadsC (Has.arg 1 rfl) Reads0) ?_
 refine TO.alloc Tryz.zero162 (fun b1 => ?_)
 refine TO.store_all (cs := (sched b).flatMap eW) (cs0 := List.replicate 64 (Value.int .u32 0)) Tryz.size162 rfl rfl (by rw [eW_len, sched_len]) rfl (flatMap_one (fun _ => rfl) _) ?_
 refine TO.nil (TQ.then_normal (T.seq (T.region ?_)))
 refine rdx (rd_move (v := .pointer _) rfl) ?_
 refine rdx (rd_nilCheck rfl) ?_
 refine rdx (rd_load_agg (cs := #[.int _ _, .int _ _, .int _ _, .int _ _, .int _ _, .int _ _, .int _ _, .int _ _]) Tryz.agg155 rfl (Has.own 1 rfl) rfl rfl) ?_
 refine TO.alloc Tryz.zero155 (fun b2 => ?_)
 refine TO.store0 (cells' := #[.int _ _, .int _ _, .int _ _, .int _ _, .int _ _, .int _ _, .int _ _, .int _ _]) Tryz.size155 rfl (v := .agg #[.int _ _, .int _ _, .int _ _, .int _ _, .int _ _, .int _ _, .int _ _, .int _ _]) rfl rfl rfl (Nat.le_of_ble_eq_true rfl) rfl ?_
 refine TO.nil (TQ.then_normal (T.seq (T.seq (T.region ?_))))
 refine rdx (rd_glob (cs := roundC) Tryz.agg162 rfl (Has.arg 0 rfl) roundC_size) ?_
 refine rdx (rd_move (v := .int _ _) rfl) ?_
 refine TO.nil (TQ.then_normal (T.block ?_))
 refine T.loop2 [0, 4, 5, 18] (fun (k : Nat) (v : H8) => [(19, .int .i64 (k : Nat))]) (fun (k : Nat) (v : H8) => [own b2 (h8C v) 155]) (fun (k : Nat) (v : H8) => k ≤ 64 ∧ v = rnds h ((shaK.zip (sched b)).take k)) (fun (k : Nat) (v : H8) => 64 - k) (0) (h) (⟨Nat.zero_le _, rfl⟩) (And.intro (rfl) (trivial)) (fun _ _ h => h) fun k v g0 hx0 => ?_
 obtain ⟨hk, hv⟩ := hx0
 refine T.seq (T.region ?_)
 refine rdx (rd_lss rfl rfl) ?_
 refine TO.nil (TQ.then_normal (T.seq ?_))
 refine T.cond_ft rfl (fun h3 => ?_) (fun h3 => ?_)
 ·try simp only [nrm] at h3
  refine T.exit (TQ.then_exit (TQ.then_exit (TQ.block_out (TQ.then_normal (T.seq (T.region ?_))))))
  refine rdx (rd_move (v := .int _ _) rfl) ?_
  refine TO.nil (TQ.then_normal (T.block ?_))
  refine T.front2 ?_
  refine T.loop1 [0, 5] (fun (k : Nat) => [(82, .int .i64 (k : Nat))]) (fun (k : Nat) => [own bh ((mixL8 h v k).flatMap eW).toArray 155]) (fun (k : Nat) => k ≤ 8) (fun (k : Nat) => 8 - k) (0) (Nat.zero_le _) (And.intro (rfl) (trivial)) (fun _ _ h => h) fun k g1 hx1 => ?_
  refine T.seq (T.region ?_)
  refine rdx (rd_lss rfl rfl) ?_
  refine TO.nil (TQ.then_normal (T.seq ?_))
  refine T.cond_ft rfl (fun h8 => ?_) (fun h8 => ?_)
  ·try simp only [nrm] at h8
   refine T.exit (TQ.then_exit (TQ.then_exit (TQ.block_out ?_)))
   refine TQ.own_eq (cells' := h8C (shaBlock h b)) (by rw [show k = 8 by omega, mixL8_8, hv, List.take_of_length_le (by rw [zip_len (sched_len b)]; omega)]; rfl) ?_
   refine TQ.done (()) (trivial) ?_ (fun _ _ h => h.sel (js := [0]) (by decide)) (res0 Tryz.results110) _ (.inr rfl)
   rfl
  try simp only [nrm] at h8
  refine T.skip (TQ.then_normal (T.seq (T.block (T.seq (T.region ?_)))))
  refine rdx (rd_move (v := .int _ _) rfl) ?_
  refine rdx (rd_assign (v := .int _ _) rfl) ?_
  refine TO.nil (TQ.then_normal ?_)
  refine T.drawq Tryz.mixes 10 [(85, 0), (86, 1), (87, 2), (88, 3), (89, 4), (90, 5), (91, 6), (92, 7), (93, 8), (94, 9)] [0, 0, 1, 7, 15, 0, 32, 96, 255, 1, 1023, 2047] (by kernel_rfl) ?_
  refine DQ.rd rfl rfl (fun _ => rd_move (v := .pointer _) rfl) ?_
  refine DQ.rd rfl rfl (fun _ => rd_move (v := .int _ _) rfl) ?_
  refine DQ.rd rfl rfl (fun _ => rd_nilCheck rfl) ?_
  refine DQ.rd rfl rfl (fun _ => rd_ixa (k) Tryz.under155 Tryz.size137 rfl rfl (by omega) (by omega)) ?_
  refine DQ.rd rfl rfl (fun _ => rd_loadk (k) (v := .int .u32 (h.l[k]'(by rw [H8.len]; omega)).toNat) Tryz.one137 rfl (Has.own 0 rfl) rfl (mixL8_at (by omega))) ?_
  refine DQ.rd rfl rfl (fun _ => rd_move (v := .int _ _) rfl) ?_
  refine DQ.rd rfl rfl (fun _ => rd_ixa (k) Tryz.under155 Tryz.size137 rfl rfl (by omega) (by omega)) ?_
  refine DQ.rd rfl rfl (fun _ => rd_loadk (k) (v := .int .u32 (v.l[k]'(by rw [H8.len]; omega)).toNat) Tryz.one137 rfl (Has.own 1 rfl) rfl (getw' (l := v.l) (by rw [H8.len]; omega))) ?_
  refine DQ.rd rfl rfl (fun _ => rd_add32 rfl rfl) ?_
  refine DQ.rd rfl rfl (fun _ => rd_nilCheck rfl) ?_
  refine DQ.done rfl ?_
  refine rdx (rd_ixa (k) Tryz.under155 Tryz.size137 rfl rfl (by omega) (by omega)) ?_
  refine TO.store0 (cells' := ((mixL8 h v (k + 1)).flatMap eW).toArray) (v := .int .u32 _) Tryz.size137 rfl rfl rfl (by rw [Nat.zero_add, Nat.mul_one]; exact mixL8_over (by omega)) (by rw [List.size_toArray, eW_len, mixL8_len h v (by omega)]; omega) rfl ?_
  refine TO.nil (TQ.block_normal (TQ.then_normal (T.region ?_)))
  refine rdx (rd_add rfl rfl (w64 (by omega) (by omega))) ?_
  refine rdx (rd_move (v := .int _ _) rfl) ?_
  refine TO.nil ?_
  refine TQ.againk (k + 1) ?_ ?_ (And.intro (rfl) (trivial)) (And.intro (rfl) (And.intro (rfl) (trivial))) (fun _ _ h => h)
  ·first | omega | (dsimp only; omega)
  ·first | omega | (dsimp only; omega)
 try simp only [nrm] at h3
 refine T.skip (TQ.then_normal (T.seq (T.block (T.seq (T.region ?_)))))
 refine rdx (rd_move (v := .int _ _) rfl) ?_
 refine rdx (rd_index_arr (k) (v := .int .u32 (shaK[k]'(by rw [shaK_len]; omega)).toNat) Tryz.under162 Tryz.one137 Tryz.size137 rfl rfl rfl (by omega) (roundC_at (by omega))) ?_
 refine rdx (rd_assign (v := .int _ _) rfl) ?_
 refine rdx (rd_assign (v := .int _ _) rfl) ?_
 refine TO.nil (TQ.then_normal (T.seq ?_))
 refine T.drawq Tryz.mixes 5 [(23, 0), (24, 1), (25, 2), (26, 3), (8, 4)] [0, 1, 0, 4, 3, 31] (by kernel_rfl) ?_
 refine DQ.rd rfl rfl (fun _ => rd_ixa 0 Tryz.under155 Tryz.size137 rfl rfl rfl (by decide)) ?_
 refine DQ.rd rfl rfl (fun _ => rd_load (v := .int _ _) Tryz.one137 rfl (Has.own 0 rfl) rfl) ?_
 refine DQ.rd rfl rfl (fun _ => rd_ixa 4 Tryz.under155 Tryz.size137 rfl rfl rfl (by decide)) ?_
 refine DQ.rd rfl rfl (fun _ => rd_load (v := .int _ _) Tryz.one137 rfl (Has.own 0 rfl) rfl) ?_
 refine DQ.rd rfl rfl (fun _ => rd_assign (v := .int _ _) rfl) ?_
 refine DQ.done rfl ?_
 refine rdx (rd_assign (v := .int _ _) rfl) ?_
 refine TO.nil (TQ.then_normal (T.seq ?_))
 refine T.drawg Tryz.mixes 22 [(27, 0), (28, 1), (29, 2), (30, 3), (31, 4), (32, 5), (33, 6), (34, 7), (35, 8), (36, 9), (37, 10), (38, 11), (39, 12), (40, 13), (41, 14), (42, 15), (43, 16), (44, 17), (45, 18), (46, 19), (47, 20), (48, 21)] [0, 1, 0, 0, 12, 31, 0, 0, 128, 448, 0, 1024, 0, 4096, 15360, 32704, 65535, 0, 262143, 0, 524288, 1572864, 4194303, 8388607] [3] (by kernel_rfl) ?_
 refine DG.rd rfl rfl rfl (fun _ _ => rd_ixa 7 Tryz.under155 Tryz.size137 rfl rfl rfl (by decide)) ?_
 refine DG.rd rfl rfl rfl (fun _ _ => rd_load (v := .int _ _) Tryz.one137 rfl (Has.own 0 rfl) rfl) ?_
 refine DG.rd rfl rfl rfl (fun _ _ => rd_move (v := .int _ _) rfl) ?_
 refine DG.buildS (cs := [.int _ _, .int _ _, .int _ _]) rfl rfl Tryz.under110 Tryz.size3 Tryz.zero3 (Nat.le_of_ble_eq_true rfl) (fun _ _ => rfl) ?_
 refine DG.fnp rfl rfl Tryz.enters115 (fun ρ => c_mixed (v.e) (some ⟨(ρ 3).2, 0, none⟩) 3 3 [6, 11, 25] (by first | rfl | simp | omega) (by decide) (by decide)) (fun _ _ => rfl) (fun ρ M hM => (ReadsC (own_slc (e := eInt) [6, 11, 25] rfl (fun _ => rfl) (Has.fromM 3 (hM 3 rfl)) (by simp)) Reads0)) ?_
 refine DG.rd rfl rfl rfl (fun _ _ => rd_add32 rfl rfl) ?_
 refine DG.rd rfl rfl rfl (fun _ _ => rd_move (v := .int _ _) rfl) ?_
 refine DG.rd rfl rfl rfl (fun _ _ => rd_ixa 5 Tryz.under155 Tryz.size137 rfl rfl rfl (by decide)) ?_
 refine DG.rd rfl rfl rfl (fun _ _ => rd_load (v := .int _ _) Tryz.one137 rfl (Has.own 0 rfl) rfl) ?_
 refine DG.rd rfl rfl rfl (fun _ _ => rd_and32 rfl rfl) ?_
 refine DG.rd rfl rfl rfl (fun _ _ => rd_move (v := .int _ _) rfl) ?_
 refine DG.rd rfl rfl rfl (fun _ _ => rd_not32 rfl) ?_
 refine DG.rd rfl rfl rfl (fun _ _ => rd_ixa 6 Tryz.under155 Tryz.size137 rfl rfl rfl (by decide)) ?_
 refine DG.rd rfl rfl rfl (fun _ _ => rd_load (v := .int _ _) Tryz.one137 rfl (Has.own 0 rfl) rfl) ?_
 refine DG.rd rfl rfl rfl (fun _ _ => rd_and32 rfl rfl) ?_
 refine DG.rd rfl rfl rfl (fun _ _ => rd_xor32 rfl rfl) ?_
 refine DG.rd rfl rfl rfl (fun _ _ => rd_add32 rfl rfl) ?_
 refine DG.rd rfl rfl rfl (fun _ _ => rd_move (v := .int _ _) rfl) ?_
 refine DG.rd rfl rfl rfl (fun _ _ => rd_add32 rfl rfl) ?_
 refine DG.rd rfl rfl rfl (fun _ _ => rd_move (v := .int _ _) rfl) ?_
 refine DG.rd rfl rfl rfl (fun _ _ => rd_ixa (k) Tryz.under162 Tryz.size137 rfl rfl (by omega) (by omega)) ?_
 refine DG.rd rfl rfl rfl (fun _ _ => rd_loadk (k) (v := .int .u32 ((sched b)[k]'(by rw [sched_len]; omega)).toNat) Tryz.one137 rfl (Has.own 1 rfl) rfl (getw' (l := sched b) (by rw [sched_len]; omega))) ?_
 refine DG.done rfl (by decide) rfl (fun gh5 => ?_)
 refine rdx (rd_add32 rfl rfl) ?_
 refine rdx (rd_assign (v := .int _ _) rfl) ?_
 refine TO.nil (TQ.then_normal (T.seq ?_))
 refine T.drawg Tryz.mixes 18 [(50, 0), (51, 1), (52, 2), (53, 3), (54, 4), (55, 5), (56, 6), (57, 7), (58, 8), (59, 9), (60, 10), (61, 11), (62, 12), (63, 13), (64, 14), (65, 15), (66, 16), (67, 17)] [0, 0, 3, 0, 0, 16, 56, 0, 0, 256, 896, 2040, 0, 4096, 0, 16384, 61440, 131064, 262143, 524287] [1] (by kernel_rfl) ?_
 refine DG.rd rfl rfl rfl (fun _ _ => rd_move (v := .int _ _) rfl) ?_
 refine DG.buildS (cs := [.int _ _, .int _ _, .int _ _]) rfl rfl Tryz.under110 Tryz.size3 Tryz.zero3 (Nat.le_of_ble_eq_true rfl) (fun _ _ => rfl) ?_
 refine DG.fnp rfl rfl Tryz.enters115 (fun ρ => c_mixed (v.a) (some ⟨(ρ 1).2, 0, none⟩) 3 3 [2, 13, 22] (by first | rfl | simp | omega) (by decide) (by decide)) (fun _ _ => rfl) (fun ρ M hM => (ReadsC (own_slc (e := eInt) [2, 13, 22] rfl (fun _ => rfl) (Has.fromM 1 (hM 1 rfl)) (by simp)) Reads0)) ?_
 refine DG.rd rfl rfl rfl (fun _ _ => rd_move (v := .int _ _) rfl) ?_
 refine DG.rd rfl rfl rfl (fun _ _ => rd_ixa 1 Tryz.under155 Tryz.size137 rfl rfl rfl (by decide)) ?_
 refine DG.rd rfl rfl rfl (fun _ _ => rd_load (v := .int _ _) Tryz.one137 rfl (Has.own 1 rfl) rfl) ?_
 refine DG.rd rfl rfl rfl (fun _ _ => rd_and32 rfl rfl) ?_
 refine DG.rd rfl rfl rfl (fun _ _ => rd_move (v := .int _ _) rfl) ?_
 refine DG.rd rfl rfl rfl (fun _ _ => rd_ixa 2 Tryz.under155 Tryz.size137 rfl rfl rfl (by decide)) ?_
 refine DG.rd rfl rfl rfl (fun _ _ => rd_load (v := .int _ _) Tryz.one137 rfl (Has.own 1 rfl) rfl) ?_
 refine DG.rd rfl rfl rfl (fun _ _ => rd_and32 rfl rfl) ?_
 refine DG.rd rfl rfl rfl (fun _ _ => rd_xor32 rfl rfl) ?_
 refine DG.rd rfl rfl rfl (fun _ _ => rd_ixa 1 Tryz.under155 Tryz.size137 rfl rfl rfl (by decide)) ?_
 refine DG.rd rfl rfl rfl (fun _ _ => rd_load (v := .int _ _) Tryz.one137 rfl (Has.own 1 rfl) rfl) ?_
 refine DG.rd rfl rfl rfl (fun _ _ => rd_ixa 2 Tryz.under155 Tryz.size137 rfl rfl rfl (by decide)) ?_
 refine DG.rd rfl rfl rfl (fun _ _ => rd_load (v := .int _ _) Tryz.one137 rfl (Has.own 1 rfl) rfl) ?_
 refine DG.rd rfl rfl rfl (fun _ _ => rd_and32 rfl rfl) ?_
 refine DG.rd rfl rfl rfl (fun _ _ => rd_xor32 rfl rfl) ?_
 refine DG.done rfl (by decide) rfl (fun gh7 => ?_)
 refine rdx (rd_add32 rfl rfl) ?_
 refine rdx (rd_assign (v := .int _ _) rfl) ?_
 refine TO.nil (TQ.then_normal (T.seq ?_))
 refine T.drawq Tryz.mixes 2 [(69, 0), (70, 1)] [0, 0, 3] (by kernel_rfl) ?_
 refine DQ.rd rfl rfl (fun _ => rd_slice_arr (i := 1) (j := 8) (t := 155) (a := 155) Tryz.under155 Tryz.size137 rfl (.inr ⟨_, rfl⟩) (.inl ⟨rfl, rfl⟩) (by decide) (by decide) (by decide)) ?_
 refine DQ.rd rfl rfl (fun _ => rd_slice_arr (i := 0) (j := 7) (t := 155) (a := 155) Tryz.under155 Tryz.size137 rfl (.inl ⟨rfl, rfl⟩) (.inr ⟨_, rfl⟩) (by decide) (by decide) (by decide)) ?_
 refine DQ.done rfl ?_
 refine TO.front2 ?_
 refine TO.copy0 (cs := [.int _ _, .int _ _, .int _ _, .int _ _, .int _ _, .int _ _, .int _ _, .int _ _]) (cells' := #[.int _ _, .int _ _, .int _ _, .int _ _, .int _ _, .int _ _, .int _ _, .int _ _]) Tryz.under138 Tryz.size137 rfl rfl (Nat.le_of_ble_eq_true rfl) (Nat.le_of_ble_eq_true rfl) rfl rfl ?_
 refine TO.nil (TQ.then_normal (T.region ?_))
 refine rdx (rd_move (v := .int _ _) rfl) ?_
 refine rdx (rd_move (v := .int _ _) rfl) ?_
 refine rdx (rd_add32 rfl rfl) ?_
 refine rdx (rd_ixa 4 Tryz.under155 Tryz.size137 rfl rfl rfl (by decide)) ?_
 refine rdx (rd_load (v := .int _ _) Tryz.one137 rfl (Has.own 0 rfl) rfl) ?_
 refine rdx (rd_move (v := .int _ _) rfl) ?_
 refine rdx (rd_add32 rfl rfl) ?_
 refine rdx (rd_ixa 0 Tryz.under155 Tryz.size137 rfl rfl rfl (by decide)) ?_
 refine TO.store0 (cells' := #[.int _ _, .int _ _, .int _ _, .int _ _, .int _ _, .int _ _, .int _ _, .int _ _]) Tryz.size137 rfl (v := .int _ _) rfl rfl rfl (Nat.le_of_ble_eq_true rfl) rfl ?_
 refine rdx (rd_ixa 4 Tryz.under155 Tryz.size137 rfl rfl rfl (by decide)) ?_
 refine TO.store0 (cells' := #[.int _ _, .int _ _, .int _ _, .int _ _, .int _ _, .int _ _, .int _ _, .int _ _]) Tryz.size137 rfl (v := .int _ _) rfl rfl rfl (Nat.le_of_ble_eq_true rfl) rfl ?_
 refine TO.own_eq (cells' := h8C (rnd v (shaK[k]'(by rw [shaK_len]; omega), (sched b)[k]'(by rw [sched_len]; omega)))) (by rw [rnd_mixed]; rfl) ?_
 refine TO.nil (TQ.block_normal (TQ.then_normal (T.region ?_)))
 refine rdx (rd_add rfl rfl (w64 (by omega) (by omega))) ?_
 refine rdx (rd_move (v := .int _ _) rfl) ?_
 refine TO.nil ?_
 refine TQ.againk (k + 1, rnd v (shaK[k]'(by rw [shaK_len]; omega), (sched b)[k]'(by rw [sched_len]; omega))) ?_ ?_ (And.intro (rfl) (trivial)) (And.intro (rfl) (And.intro (rfl) (And.intro (rfl) (And.intro (rfl) (trivial))))) (fun _ _ h => h.sel (js := [0, 3, 4]) (by decide))
 ·exact ⟨by omega, by rw [hv]; exact (rnds_succ (sched_len b) (by omega)).symm⟩
 ·first | omega | (dsimp only; omega)
end Go.Proofs
end
section
set_option linter.unusedVariables false
set_option linter.unusedSimpArgs false
set_option maxRecDepth 100000
set_option maxHeartbeats 800000
namespace Go.Proofs
open Go.TL
attribute [local irreducible] Go.TL.T Go.TL.TO Go.TL.TQ
theorem c_words_digest (h : H8) : Cv Tryz.prog 111 #[.agg (h8C h)] [] (.string (str (h.l.flatMap be4))) := by
 have hfl : (h.l.flatMap be4).length = 32 := by simp [H8.l, be4]
 refine Ctr.intro Tryz.func111 rfl Tryz.ntmps111 (Nat.le_of_ble_eq_true rfl) fun S0 w0 => ?_
 refine T.seq (T.region ?_)
 refine TO.box (v := .agg #[.int _ _, .int _ _, .int _ _, .int _ _, .int _ _, .int _ _, .int _ _, .int _ _]) rfl (fun b1 => ?_)
 refine rdx (rd_assign (v := .string _) rfl) ?_
 refine TO.nil (TQ.then_normal (T.seq (T.region ?_)))
 refine TO.alloc Tryz.zero165 (fun b2 => ?_)
 refine TO.nil (TQ.then_normal (T.seq (T.seq (T.region ?_))))
 refine rdx (rd_load_agg (cs := #[.int _ _, .int _ _, .int _ _, .int _ _, .int _ _, .int _ _, .int _ _, .int _ _]) Tryz.agg155 rfl (Has.own 1 rfl) rfl rfl) ?_
 refine rdx (rd_move (v := .int _ _) rfl) ?_
 refine TO.nil (TQ.then_normal (T.block ?_))
 refine T.loop1 [3, 7] (fun (i : Nat) => [(8, .int .i64 (i : Nat))]) (fun (i : Nat) => [own b2 (bytesC ((h.l.flatMap be4).take (4 * i)) ++ List.replicate (32 - (4 * i)) (Value.int .u8 0)).toArray 165]) (fun (i : Nat) => i ≤ 8) (fun (i : Nat) => 8 - i) (0) (Nat.zero_le _) (And.intro (rfl) (trivial)) (fun _ _ h => h) fun i g0 hx0 => ?_
 refine T.seq (T.region ?_)
 refine rdx (rd_lss rfl rfl) ?_
 refine TO.nil (TQ.then_normal (T.seq ?_))
 refine T.cond_ft rfl (fun h3 => ?_) (fun h3 => ?_)
 ·try simp only [nrm] at h3
  refine T.exit (TQ.then_exit (TQ.then_exit (TQ.block_out (TQ.then_normal (T.seq (T.region ?_))))))
  refine rdx (rd_slice_arr (i := 0) (j := 32) (t := 165) (a := 165) Tryz.under165 Tryz.size5 rfl (.inl ⟨rfl, rfl⟩) (.inl ⟨rfl, rfl⟩) (by decide) (by decide) (by decide)) ?_
  refine TO.own_eq (cells' := (bytesC (h.l.flatMap be4)).toArray) (by rw [show 4 * i = 32 by omega, List.take_of_length_le (by rw [hfl]; omega)]; simp) ?_
  refine TO.torow0 1 32 (by rw [bytesC_length, hfl]) (by decide) ?_
  refine rdx (rd_row_str Tryz.under62 Tryz.under5 Tryz.under9 rfl (Has.own 0 rfl)) ?_
  refine rdx (rd_assign (v := .string _) rfl) ?_
  refine TO.nil (TQ.then_normal (T.ret ?_))
  refine TQ.value ?_ (res1 Tryz.results111 (Res.tmp (v := .string _) rfl)) _ (.inl rfl)
  rfl
 try simp only [nrm] at h3
 refine T.skip (TQ.then_normal (T.seq (T.block (T.seq (T.region ?_)))))
 refine rdx (rd_move (v := .int _ _) rfl) ?_
 refine rdx (rd_index_arr (i) (v := .int .u32 (h.l[i]'(by rw [H8.len]; omega)).toNat) Tryz.under155 Tryz.one137 Tryz.size137 rfl rfl rfl (by omega) (h8C_at h (by omega))) ?_
 refine rdx (rd_assign (v := .int _ _) rfl) ?_
 refine rdx (rd_assign (v := .int _ _) rfl) ?_
 refine TO.nil (TQ.then_normal (T.seq (T.region ?_)))
 refine rdx (rd_move (v := .int _ _) rfl) ?_
 refine TO.nil (TQ.then_normal (T.block ?_))
 refine T.loop1 [3, 4, 5, 7, 8] (fun (j : Nat) => [(12, .int .i64 (j : Nat))]) (fun (j : Nat) => [own b2 (bytesC ((h.l.flatMap be4).take (4 * i + j)) ++ List.replicate (32 - (4 * i + j)) (Value.int .u8 0)).toArray 165]) (fun (j : Nat) => j ≤ 4) (fun (j : Nat) => 4 - j) (0) (Nat.zero_le _) (And.intro (rfl) (trivial)) (fun _ _ h => h) fun j g1 hx1 => ?_
 refine T.seq (T.region ?_)
 refine rdx (rd_lss rfl rfl) ?_
 refine TO.nil (TQ.then_normal (T.seq ?_))
 refine T.cond_ft rfl (fun h4 => ?_) (fun h4 => ?_)
 ·try simp only [nrm] at h4
  refine T.exit (TQ.then_exit (TQ.then_exit (TQ.block_out (TQ.block_normal (TQ.then_normal (T.region ?_))))))
  refine rdx (rd_add rfl rfl (w64 (by omega) (by omega))) ?_
  refine TO.own_eq (cells' := (bytesC ((h.l.flatMap be4).take (4 * (i + 1))) ++ List.replicate (32 - (4 * (i + 1))) (Value.int .u8 0)).toArray) (by rw [show 4 * (i + 1) = 4 * i + j by omega]) ?_
  refine rdx (rd_move (v := .int _ _) rfl) ?_
  refine TO.nil ?_
  refine TQ.againk (i + 1) ?_ ?_ (And.intro (rfl) (trivial)) (And.intro (rfl) (And.intro (rfl) (trivial))) (fun _ _ h => h)
  ·first | omega | (dsimp only; omega)
  ·first | omega | (dsimp only; omega)
 try simp only [nrm] at h4
 refine T.skip (TQ.then_normal (T.seq (T.block (T.seq (T.region ?_)))))
 refine rdx (rd_move (v := .int _ _) rfl) ?_
 refine rdx (rd_assign (v := .int _ _) rfl) ?_
 refine TO.nil (TQ.then_normal (T.region ?_))
 refine rdx (rd_move (v := .int _ _) rfl) ?_
 refine rdx (rd_mul rfl rfl (w64 (by omega) (by omega))) ?_
 refine rdx (rd_move (v := .int _ _) rfl) ?_
 refine rdx (rd_add rfl rfl (w64 (by omega) (by omega))) ?_
 refine rdx (rd_move (v := .int _ _) rfl) ?_
 refine rdx (rd_move (v := .int _ _) rfl) ?_
 refine rdx (rd_mul rfl rfl (w64 (by omega) (by omega))) ?_
 refine rdx (rd_sub rfl rfl (w64 (by omega) (by omega))) ?_
 refine rdx (rd_shr32 (k := (24 - 8 * j)) rfl rfl (by omega) (by omega)) ?_
 refine rdx (rd_conv32_8 Tryz.isome137 Tryz.under5 rfl) ?_
 refine rdx (rd_ixa (4 * i + j) Tryz.under165 Tryz.size5 rfl rfl (by omega) (by omega)) ?_
 refine TO.store0 (cells' := (bytesC ((h.l.flatMap be4).take (4 * i + j + 1)) ++ List.replicate (32 - (4 * i + j + 1)) (Value.int .u8 0)).toArray) (v := .int .u8 _) Tryz.size5 rfl rfl rfl (by rw [Nat.zero_add, Nat.mul_one]; exact over_byte (dig_at (by omega) (by omega)) (by omega)) (by rw [List.size_toArray, List.length_append, bytesC_length, List.length_take, List.length_replicate, hfl]; omega) rfl ?_
 refine TO.nil (TQ.block_normal (TQ.then_normal (T.region ?_)))
 refine rdx (rd_add rfl rfl (w64 (by omega) (by omega))) ?_
 refine rdx (rd_move (v := .int _ _) rfl) ?_
 refine TO.nil ?_
 refine TQ.againk (j + 1) ?_ ?_ (And.intro (rfl) (trivial)) (And.intro (rfl) (And.intro (rfl) (And.intro (rfl) (And.intro (rfl) (And.intro (rfl) (trivial)))))) (fun _ _ h => h)
 ·first | omega | (dsimp only; omega)
 ·first | omega | (dsimp only; omega)
theorem c_chunk1 (b1 b2 g len cap : Nat) (h64 : len % 64 = 0) (hc : len ≤ cap) (hl : cap ≤ 9223372036854775807) : ICtr Tryz.prog 113 [.pointer (some ⟨b1, 0, none⟩), .pointer (some ⟨b2, 0, none⟩)] [own b1 #[.slice (some ⟨g, 0, none⟩) len cap] 62, own b2 #[.int .i64 64] 3] [] (len / 64) (fun k => [.slice (some ⟨g, 64 * k, none⟩) 64 64]) := by
 intro l G J Js hY
 refine Ctr.intro Tryz.func113 rfl Tryz.ntmps113 (Nat.le_of_ble_eq_true rfl) fun S0 w0 => ?_
 refine T.seq (T.region ?_)
 refine rdx (rd_assign (v := .int _ _) rfl) ?_
 refine TO.nil (TQ.then_normal (T.block ?_))
 refine T.loop1 [0, 1, 2] (fun (k : Nat) => [(4, .int .i64 ((64 * k : Nat) : Int))]) (fun (k : Nat) => [J k]) (fun (k : Nat) => k ≤ len / 64) (fun (k : Nat) => len / 64 - k) (0) (Nat.zero_le _) (And.intro (rfl) (trivial)) (fun _ _ h => h) fun k g0 hx0 => ?_
 refine T.seq (T.seq (T.region ?_))
 refine rdx (rd_move (v := .int _ _) rfl) ?_
 refine rdx (rd_load (v := .slice _ _ _) Tryz.one62 rfl (Has.arg 0 rfl) rfl) ?_
 refine rdx (rd_lensl Tryz.under62 rfl) ?_
 refine rdx (rd_lss rfl rfl) ?_
 refine TO.nil (TQ.then_normal ?_)
 refine T.cond_ft rfl (fun h1 => ?_) (fun h1 => ?_)
 ·try simp only [nrm] at h1
  refine T.exit (TQ.then_exit (TQ.then_exit (TQ.block_out ?_)))
  refine TQ.done (true) (trivial) ?_ (fun _ _ h => by rw [show len / 64 = k by omega]; exact h.sel (js := [0]) (by decide)) (res0 Tryz.results113) _ (.inr rfl)
  rfl
 try simp only [nrm] at h1
 refine T.skip (TQ.then_normal (T.seq (T.block (T.seq ?_))))
 refine T.drawq Tryz.mixes 5 [(13, 0), (14, 1), (15, 2), (16, 3), (17, 4)] [0, 0, 0, 6, 14, 31, 63] (by kernel_rfl) ?_
 refine DQ.rd rfl rfl (fun _ => rd_load (v := .int _ _) Tryz.one3 rfl (Has.arg 1 rfl) rfl) ?_
 refine DQ.rd rfl rfl (fun _ => rd_load (v := .slice _ _ _) Tryz.one62 rfl (Has.arg 0 rfl) rfl) ?_
 refine DQ.rd rfl rfl (fun _ => rd_move (v := .int _ _) rfl) ?_
 refine DQ.rd rfl rfl (fun _ => rd_sub_slice (i := 64 * k) (j := len) Tryz.under62 Tryz.size5 rfl (.inr ⟨_, rfl⟩) (.inl ⟨rfl, rfl⟩) (by omega) (by omega) (by omega)) ?_
 refine DQ.rd rfl rfl (fun _ => rd_lensl Tryz.under62 rfl) ?_
 refine DQ.done rfl ?_
 refine rdx (rd_min2 (s := 64) rfl rfl (by rw [if_neg (by omega)])) ?_
 refine rdx (rd_assign (v := .int _ _) rfl) ?_
 refine TO.nil (TQ.then_normal (T.seq (T.region ?_)))
 refine rdx (rd_move (v := .func _ _ _) rfl) ?_
 refine rdx (rd_load (v := .slice _ _ _) Tryz.one62 rfl (Has.arg 0 rfl) rfl) ?_
 refine rdx (rd_move (v := .int _ _) rfl) ?_
 refine rdx (rd_move (v := .int _ _) rfl) ?_
 refine rdx (rd_move (v := .int _ _) rfl) ?_
 refine rdx (rd_add rfl rfl (w64 (by omega) (by omega))) ?_
 refine rdx (rd_move (v := .int _ _) rfl) ?_
 refine rdx (rd_move (v := .int _ _) rfl) ?_
 refine rdx (rd_add rfl rfl (w64 (by omega) (by omega))) ?_
 refine rdx (rd_slice3' (i := 64 * k) (j := 64 * k + 64) (q := 64 * k + 64) (l := 64) (o' := 64 * k) Tryz.under62 Tryz.size5 rfl rfl rfl rfl (by omega) (by omega) (by omega) (by omega) (by omega) (by omega) (by omega) (by omega) (by omega) (by omega)) ?_
 refine TO.yield2 rfl (hY k (by omega)) rfl (fun X hX => Has.mem (List.mem_append_right _ hX)) ?_ ?_
 ·refine rdx (rd_not rfl) ?_
  refine TO.nil (TQ.then_normal ?_)
  refine T.cond_true rfl ?_
  refine T.ret (TQ.block_ret (TQ.then_ret (TQ.then_ret (TQ.block_ret ?_))))
  refine TQ.done (false) (trivial) ?_ (fun _ _ h => h.sel (js := [0]) (by decide)) (res0 Tryz.results113) _ (.inl rfl)
  rfl
 refine rdx (rd_not rfl) ?_
 refine TO.nil (TQ.then_normal ?_)
 refine T.cond_false rfl ?_
 refine T.skip (TQ.block_normal (TQ.then_normal (T.region ?_)))
 refine rdx (rd_move (v := .int _ _) rfl) ?_
 refine rdx (rd_load (v := .int _ _) Tryz.one3 rfl (Has.arg 1 rfl) rfl) ?_
 refine rdx (rd_add rfl rfl (w64 (by omega) (by omega))) ?_
 refine rdx (rd_assign (v := .int _ _) rfl) ?_
 refine TO.nil ?_
 refine TQ.againk (k + 1) ?_ ?_ (And.intro (rfl) (trivial)) (And.intro (rfl) (And.intro (rfl) (And.intro (rfl) (trivial)))) (fun _ _ h => h)
 ·first | omega | (dsimp only; omega)
 ·first | omega | (dsimp only; omega)
theorem c_chunk (A : Option Addr) (len cap : Nat) : Ctr Tryz.prog 109 #[.slice A len cap, .int .i64 64] [] [] (γ := Nat × Nat) (fun x => True) (fun x => .func (.func 113) #[] #[.pointer (some ⟨x.1, 0, none⟩), .pointer (some ⟨x.2, 0, none⟩)]) (fun x => [own x.1 #[.slice A len cap] 62, own x.2 #[.int .i64 64] 3]) := by
 refine Ctr.intro Tryz.func109 rfl Tryz.ntmps109 (Nat.le_of_ble_eq_true rfl) fun S0 w0 => ?_
 refine T.seq (T.region ?_)
 refine TO.box (v := .slice _ _ _) rfl (fun b1 => ?_)
 refine TO.box (v := .int _ _) rfl (fun b2 => ?_)
 refine rdx (rd_assign (v := .nilFunc) rfl) ?_
 refine TO.nil (TQ.then_normal (T.seq (T.seq (T.region ?_))))
 refine rdx (rd_load (v := .int _ _) Tryz.one3 rfl (Has.own 0 rfl) rfl) ?_
 refine rdx (rd_lss rfl rfl) ?_
 refine TO.nil (TQ.then_normal ?_)
 refine T.cond rfl (fun h3 => ?_) (fun h3 => ?_)
 ·try simp only [nrm] at h3
  exfalso
  first | omega | (simp at h3; done) | (simp at h3; omega)
 try simp only [nrm] at h3
 refine T.skip (TQ.then_normal (T.seq (T.region ?_)))
 refine rdx (rd_clo (b := [_, _]) rfl) ?_
 refine rdx (rd_assign (v := .func _ _ _) rfl) ?_
 refine TO.nil (TQ.then_normal (T.ret ?_))
 refine TQ.done ((b1, b2)) (trivial) ?_ (fun _ _ h => h.sel (js := [1, 0]) (by decide)) (res1 Tryz.results109 (Res.tmp (v := .func _ _ _) rfl)) _ (.inl rfl)
 rfl
end Go.Proofs
end
section
set_option linter.unusedVariables false
set_option linter.unusedSimpArgs false
set_option maxRecDepth 100000
set_option maxHeartbeats 800000
namespace Go.Proofs
open Go.TL
attribute [local irreducible] Go.TL.T Go.TL.TO Go.TL.TQ
theorem Tryz.big100 : TyBig Tryz.prog 100 := (by kernel_rfl : (Tryz.prog.info? 100).any (fun j => j.size != 0) = true)
theorem Tryz.cells1_5 : Tryz.prog.cellsOf 5 = 1 := by kernel_rfl
theorem Tryz.field100_0 : TyField Tryz.prog 100 0 0 := fun a w => by kernel_rfl
theorem Tryz.one98 : TyOne Tryz.prog 98 := ⟨fun w => by kernel_rfl, fun w => by kernel_rfl⟩
theorem Tryz.same101 : Same Tryz.prog 101 := fun v w => by kernel_rfl
theorem Tryz.size98 : ∀ w, (sizeOf 98).run Tryz.prog w = .ok 1 w := fun w => by kernel_rfl
theorem Tryz.under134 : Tryz.prog.underlying 134 = some (.pointer 5) := by kernel_rfl
theorem Tryz.under147 : Tryz.prog.underlying 147 = some (.unsafePointer) := by kernel_rfl
theorem Tryz.under98 : Tryz.prog.underlying 98 = some (.pointer 100) := by kernel_rfl
end Go.Proofs
end
section
set_option linter.unusedVariables false
set_option linter.unusedSimpArgs false
set_option maxRecDepth 100000
set_option maxHeartbeats 800000
namespace Go.Proofs
open Go.TL
attribute [local irreducible] Go.TL.T Go.TL.TO Go.TL.TQ
theorem c_copyCheck (b tb : Nat) (av : Value) (A0 : Option Addr) (n0 c0 : Nat) (hav : av = .pointer none ∨ av = .pointer (some ⟨b, 0, none⟩)) (hT : liesAt Tryz.prog Tryz.prog.depth tb (2 / Tryz.prog.cellsOf tb) 0 100 1 = true) : Ctr Tryz.prog 93 #[.pointer (some ⟨b, 0, none⟩)] [] [own b #[av, .slice A0 n0 c0] tb] (γ := Unit) (fun _ => True) (fun _ => .tuple #[]) (fun _ => [own b #[.pointer (some ⟨b, 0, none⟩), .slice A0 n0 c0] tb]) := by
 rcases hav with rfl | rfl
 ·refine Ctr.intro Tryz.func93 rfl Tryz.ntmps93 (Nat.le_of_ble_eq_true rfl) fun S0 w0 => ?_
  refine T.seq (T.region ?_)
  refine rdx (rd_move (v := .pointer _) rfl) ?_
  refine rdx (rd_nilCheck rfl) ?_
  refine rdx (rd_fieldAddr Tryz.field100_0 rfl) ?_
  refine rdx (rd_load (v := .pointer _) Tryz.one98 rfl (Has.own 0 rfl) rfl) ?_
  refine rdx (rd_eqpn Tryz.under98 rfl rfl) ?_
  refine TO.nil (TQ.then_normal ?_)
  refine T.cond_true rfl ?_
  refine T.region ?_
  refine rdx (rd_move (v := .pointer _) rfl) ?_
  refine rdx (rd_move (v := .pointer _) rfl) ?_
  refine rdx (rd_to_unsafe Tryz.under98 Tryz.under147 Tryz.big100 rfl (Has.own 0 rfl) (Nat.succ_pos 1)) ?_
  refine rdx (rd_same Tryz.same101 rfl rfl) ?_
  refine rdx (rd_from_unsafe Tryz.under147 Tryz.under98 Tryz.big100 rfl (Has.own 0 rfl) hT) ?_
  refine rdx (rd_nilCheck rfl) ?_
  refine rdx (rd_fieldAddr Tryz.field100_0 rfl) ?_
  refine TO.store0 (cells' := #[.pointer _, .slice _ _ _]) Tryz.size98 rfl (v := .pointer _) rfl rfl rfl (Nat.le_of_ble_eq_true rfl) rfl ?_
  refine TO.nil ?_
  refine TQ.done (()) (trivial) ?_ (fun _ _ h => h.sel (js := [0]) (by decide)) (res0 Tryz.results93) _ (.inr rfl)
  rfl
 ·refine Ctr.intro Tryz.func93 rfl Tryz.ntmps93 (Nat.le_of_ble_eq_true rfl) fun S0 w0 => ?_
  refine T.seq (T.region ?_)
  refine rdx (rd_move (v := .pointer _) rfl) ?_
  refine rdx (rd_nilCheck rfl) ?_
  refine rdx (rd_fieldAddr Tryz.field100_0 rfl) ?_
  refine rdx (rd_load (v := .pointer _) Tryz.one98 rfl (Has.own 0 rfl) rfl) ?_
  refine rdx (rd_eqps Tryz.under98 rfl rfl) ?_
  refine TO.nil (TQ.then_normal ?_)
  refine T.cond_false rfl ?_
  refine T.seq (T.region ?_)
  refine rdx (rd_move (v := .pointer _) rfl) ?_
  refine rdx (rd_nilCheck rfl) ?_
  refine rdx (rd_fieldAddr Tryz.field100_0 rfl) ?_
  refine rdx (rd_load (v := .pointer _) Tryz.one98 rfl (Has.own 0 rfl) rfl) ?_
  refine rdx (rd_move (v := .pointer _) rfl) ?_
  refine rdx (rd_neqp' Tryz.under98 Tryz.big100 rfl rfl) ?_
  refine TO.nil (TQ.then_normal ?_)
  refine T.cond_false rfl ?_
  refine T.skip ?_
  refine TQ.done (()) (trivial) ?_ (fun _ _ h => h.sel (js := [0]) (by decide)) (res0 Tryz.results93) _ (.inr rfl)
  rfl
theorem c_WriteString (b tb : Nat) (t : Bytes) (s : Bytes) (hT : liesAt Tryz.prog Tryz.prog.depth tb (2 / Tryz.prog.cellsOf tb) 0 100 1 = true) (hl : t.length + s.length ≤ 1000000000000) : Ctr Tryz.prog 65 #[.pointer (some ⟨b, 0, none⟩), .string (str s)] [] [bld 5 tb b t] (γ := Unit) (fun _ => True) (fun _ => .tuple #[.int .i64 s.length, .nilIface]) (fun _ => [bld 5 tb b (t ++ s)]) := by
 refine Ctr.intro Tryz.func65 rfl Tryz.ntmps65 (Nat.le_of_ble_eq_true rfl) fun S0 w0 => ?_
 refine T.open_bld fun av A0 c0 hav => ?_
 refine T.seq (T.region ?_)
 refine rdx (rd_assign (v := .int _ _) rfl) ?_
 refine rdx (rd_assign (v := _) rfl) ?_
 refine TO.nil (TQ.then_normal (T.seq (T.region ?_)))
 refine rdx (rd_move (v := .pointer _) rfl) ?_
 refine TO.hand Tryz.enters93 rfl (c_copyCheck _ _ _ _ _ _ (by first | assumption | exact .inl rfl | exact .inr rfl) hT) rfl rfl Reads0 (fun _ hx1 => ?_)
 refine TO.nil (TQ.then_normal (T.seq (T.region ?_)))
 refine rdx (rd_move (v := .pointer _) rfl) ?_
 refine rdx (rd_move (v := .pointer _) rfl) ?_
 refine rdx (rd_nilCheck rfl) ?_
 refine rdx (rd_fieldAddr Tryz.field100_1 rfl) ?_
 refine rdx (rd_load (v := .slice _ _ _) Tryz.one62 rfl (Has.own 0 rfl) rfl) ?_
 refine rdx (rd_move (v := .string _) rfl) ?_
 refine TO.front1 ?_
 refine TO.app Tryz.trow5 Tryz.under62 (.inr Tryz.under9) rfl rfl (fun _ _ _ _ => Src.ofStr) (by simp [bytesC_length]) (List.all_eq_true.2 (bytesC_one _)) (by omega) (fun A2 c3 hc4 => ?_)
 refine rdx (rd_nilCheck rfl) ?_
 refine rdx (rd_fieldAddr Tryz.field100_1 rfl) ?_
 refine TO.front1 ?_
 refine TO.store0 (cells' := #[.pointer _, .slice _ _ _]) Tryz.size62 rfl (v := .slice _ _ _) rfl rfl rfl (Nat.le_of_ble_eq_true rfl) rfl ?_
 refine TO.nil (TQ.then_normal (T.seq (T.region ?_)))
 refine rdx (rd_move (v := .string _) rfl) ?_
 refine rdx (rd_lens' Tryz.under9 rfl) ?_
 refine rdx (rd_assign (v := .int _ _) rfl) ?_
 refine rdx (rd_assign (v := _) rfl) ?_
 refine TO.nil (TQ.then_normal (T.ret ?_))
 refine TQ.front1 ?_
 refine TQ.front1 ?_
 refine TQ.conv (fun _ _ h => Seps.tobld (t := t ++ s) (.inr rfl) (by simp) ((bytesC_append t s).symm) h) ?_
 refine TQ.done (()) (trivial) ?_ (fun _ _ h => h.sel (js := [0]) (by decide)) (res2 Tryz.results65 (Res.tmp (v := .int _ _) rfl) (Res.tmp (v := _) rfl)) _ (.inl rfl)
 rfl
theorem c_WriteByte (b tb : Nat) (t : Bytes) (c : UInt8) (hT : liesAt Tryz.prog Tryz.prog.depth tb (2 / Tryz.prog.cellsOf tb) 0 100 1 = true) (hl : t.length ≤ 1000000000000) : Ctr Tryz.prog 75 #[.pointer (some ⟨b, 0, none⟩), .int .u8 c.toNat] [] [bld 5 tb b t] (γ := Unit) (fun _ => True) (fun _ => .nilIface) (fun _ => [bld 5 tb b (t ++ [c])]) := by
 refine Ctr.intro Tryz.func75 rfl Tryz.ntmps75 (Nat.le_of_ble_eq_true rfl) fun S0 w0 => ?_
 refine T.open_bld fun av A0 c0 hav => ?_
 refine T.seq (T.region ?_)
 refine rdx (rd_assign (v := _) rfl) ?_
 refine TO.nil (TQ.then_normal (T.seq (T.region ?_)))
 refine rdx (rd_move (v := .pointer _) rfl) ?_
 refine TO.hand Tryz.enters93 rfl (c_copyCheck _ _ _ _ _ _ (by first | assumption | exact .inl rfl | exact .inr rfl) hT) rfl rfl Reads0 (fun _ hx1 => ?_)
 refine TO.nil (TQ.then_normal (T.seq (T.region ?_)))
 refine rdx (rd_move (v := .pointer _) rfl) ?_
 refine rdx (rd_move (v := .pointer _) rfl) ?_
 refine rdx (rd_nilCheck rfl) ?_
 refine rdx (rd_fieldAddr Tryz.field100_1 rfl) ?_
 refine rdx (rd_load (v := .slice _ _ _) Tryz.one62 rfl (Has.own 0 rfl) rfl) ?_
 refine rdx (rd_move (v := .int _ _) rfl) ?_
 refine TO.buildS (cs := [.int _ _]) Tryz.under62 Tryz.size5 Tryz.zero5 (Nat.le_of_ble_eq_true rfl) rfl (fun b2 => ?_)
 refine TO.front2 ?_
 refine TO.app Tryz.trow5 Tryz.under62 (.inl ⟨_, Tryz.under62⟩) rfl rfl (Src.own1 1 rfl rfl) rfl rfl (by omega) (fun A3 c4 hc5 => ?_)
 refine rdx (rd_nilCheck rfl) ?_
 refine rdx (rd_fieldAddr Tryz.field100_1 rfl) ?_
 refine TO.front2 ?_
 refine TO.store0 (cells' := #[.pointer _, .slice _ _ _]) Tryz.size62 rfl (v := .slice _ _ _) rfl rfl rfl (Nat.le_of_ble_eq_true rfl) rfl ?_
 refine TO.nil (TQ.then_normal (T.seq (T.region ?_)))
 refine rdx (rd_assign (v := _) rfl) ?_
 refine TO.nil (TQ.then_normal (T.ret ?_))
 refine TQ.front1 ?_
 refine TQ.front1 ?_
 refine TQ.conv (fun _ _ h => Seps.tobld (t := t ++ [c]) (.inr rfl) (by simp) ((bytesC_append t [c]).symm) h) ?_
 refine TQ.done (()) (trivial) ?_ (fun _ _ h => h.sel (js := [0]) (by decide)) (res1 Tryz.results75 (Res.tmp (v := _) rfl)) _ (.inl rfl)
 rfl
theorem c_String (b tb : Nat) (t : Bytes) (h0 : t ≠ []) : Ctr Tryz.prog 66 #[.pointer (some ⟨b, 0, none⟩)] [] [bld 5 tb b t] (γ := Unit) (fun _ => True) (fun _ => .string (str t)) (fun _ => []) := by
 refine Ctr.intro Tryz.func66 rfl Tryz.ntmps66 (Nat.le_of_ble_eq_true rfl) fun S0 w0 => ?_
 refine T.open_bld fun av A0 c0 hav => ?_
 refine T.front1 ?_
 refine T.rowbase (by have := List.length_pos_iff.2 h0; omega) fun b1 hb1 hc0 => ?_
 subst hb1
 refine T.seq (T.region ?_)
 refine rdx (rd_assign (v := .string _) rfl) ?_
 refine TO.nil (TQ.then_normal (T.seq ?_))
 refine T.drawq Tryz.mixes 10 [(3, 0), (4, 1), (5, 2), (6, 3), (7, 4), (8, 5), (9, 6), (10, 7), (11, 8), (12, 9)] [0, 1, 3, 7, 15, 0, 32, 96, 224, 480, 1023, 2047] (by kernel_rfl) ?_
 refine DQ.rd rfl rfl (fun _ => rd_move (v := .pointer _) rfl) ?_
 refine DQ.rd rfl rfl (fun _ => rd_nilCheck rfl) ?_
 refine DQ.rd rfl rfl (fun _ => rd_fieldAddr Tryz.field100_1 rfl) ?_
 refine DQ.rd rfl rfl (fun _ => rd_load (v := .slice _ _ _) Tryz.one62 rfl (Has.own 1 rfl) rfl) ?_
 refine DQ.rd rfl rfl (fun _ => rd_sliceData rfl (by have := List.length_pos_iff.2 h0; omega)) ?_
 refine DQ.rd rfl rfl (fun _ => rd_move (v := .pointer _) rfl) ?_
 refine DQ.rd rfl rfl (fun _ => rd_nilCheck rfl) ?_
 refine DQ.rd rfl rfl (fun _ => rd_fieldAddr Tryz.field100_1 rfl) ?_
 refine DQ.rd rfl rfl (fun _ => rd_load (v := .slice _ _ _) Tryz.one62 rfl (Has.own 1 rfl) rfl) ?_
 refine DQ.rd rfl rfl (fun _ => rd_lensl Tryz.under62 rfl) ?_
 refine DQ.done rfl ?_
 refine TO.ustr Tryz.under134 Tryz.cells1_5 rfl rfl h0 ?_
 refine rdx (rd_assign (v := .string _) rfl) ?_
 refine TO.nil (TQ.then_normal (T.ret ?_))
 refine TQ.done (()) (trivial) ?_ (fun _ _ _ => by exact trivial) (res1 Tryz.results66 (Res.tmp (v := .string _) rfl)) _ (.inl rfl)
 rfl
end Go.Proofs
end
section
set_option linter.unusedVariables false
set_option linter.unusedSimpArgs false
set_option maxRecDepth 100000
set_option maxHeartbeats 800000
namespace Go.Proofs
open Go.TL
attribute [local irreducible] Go.TL.T Go.TL.TO Go.TL.TQ
theorem c_grow (b tb n : Nat) (hn : n ≤ 100000000000000) : Ctr Tryz.prog 116 #[.pointer (some ⟨b, 0, none⟩), .int .i64 (n : Int)] [] [own b #[.pointer (some ⟨b, 0, none⟩), .slice none 0 0] tb] (γ := Unit) (fun _ => True) (fun _ => .tuple #[]) (fun _ => [bld 5 tb b []]) := by
 refine Ctr.intro Tryz.func116 rfl Tryz.ntmps116 (Nat.le_of_ble_eq_true rfl) fun S0 w0 => ?_
 refine T.newrow 5 1 ?_
 refine T.seq ?_
 refine T.drawg Tryz.mixes 14 [(5, 0), (6, 1), (7, 2), (8, 3), (9, 4), (10, 5), (11, 6), (12, 7), (13, 8), (14, 9), (15, 10), (16, 11), (17, 12), (18, 13)] [0, 1, 3, 7, 15, 31, 0, 127, 255, 0, 512, 1536, 3584, 7680, 16383, 32767] [8] (by kernel_rfl) ?_
 refine DG.rd rfl rfl rfl (fun _ _ => rd_move (v := .pointer _) rfl) ?_
 refine DG.rd rfl rfl rfl (fun _ _ => rd_nilCheck rfl) ?_
 refine DG.rd rfl rfl rfl (fun _ _ => rd_fieldAddr Tryz.field100_1 rfl) ?_
 refine DG.rd rfl rfl rfl (fun _ _ => rd_load (v := .slice _ _ _) Tryz.one62 rfl (Has.own 1 rfl) rfl) ?_
 refine DG.rd rfl rfl rfl (fun _ _ => rd_capl Tryz.under62 rfl) ?_
 refine DG.rd rfl rfl rfl (fun _ _ => rd_mul rfl rfl (w64 (by omega) (by omega))) ?_
 refine DG.rd rfl rfl rfl (fun _ _ => rd_move (v := .int _ _) rfl) ?_
 refine DG.rd rfl rfl rfl (fun _ _ => rd_add (s := (n : Int)) rfl rfl (by rw [w64 (by omega) (by omega)]; omega)) ?_
 refine DG.new (by rw [← Array.getElem?_toList]; exact rfl) rfl (fun x => .slice x.1 (n) x.2) (fun x => row 5 1 x.1 0 x.2 []) (fun ρ g M Q' h' => TO.mkz Tryz.mkz118 Tryz.under62 rfl (by omega) fun A cap _ => h' (A, cap)) ?_
 refine DG.rd rfl rfl rfl (fun _ _ => rd_move (v := .pointer _) rfl) ?_
 refine DG.rd rfl rfl rfl (fun _ _ => rd_nilCheck rfl) ?_
 refine DG.rd rfl rfl rfl (fun _ _ => rd_fieldAddr Tryz.field100_1 rfl) ?_
 refine DG.rd rfl rfl rfl (fun _ _ => rd_load (v := .slice _ _ _) Tryz.one62 rfl (Has.own 1 rfl) rfl) ?_
 refine DG.rd rfl rfl rfl (fun _ _ => rd_lensl Tryz.under62 rfl) ?_
 refine DG.done rfl (by decide) rfl (fun gh2 => ?_)
 refine rdx (rd_slice_head (j := 0) Tryz.under62 Tryz.size5 rfl rfl rfl (Nat.zero_le _)) ?_
 refine rdx (rd_assign (v := .slice _ _ _) rfl) ?_
 refine TO.nil (TQ.then_normal (T.seq (T.region ?_)))
 refine rdx (rd_move (v := .slice _ _ _) rfl) ?_
 refine rdx (rd_move (v := .pointer _) rfl) ?_
 refine rdx (rd_nilCheck rfl) ?_
 refine rdx (rd_fieldAddr Tryz.field100_1 rfl) ?_
 refine rdx (rd_load (v := .slice _ _ _) Tryz.one62 rfl (Has.own 2 rfl) rfl) ?_
 refine rdx (rd_copy0 Tryz.under62 Tryz.one1_5 rfl rfl) ?_
 refine TO.nil (TQ.then_normal (T.region ?_))
 refine rdx (rd_move (v := .pointer _) rfl) ?_
 refine rdx (rd_move (v := .slice _ _ _) rfl) ?_
 refine rdx (rd_nilCheck rfl) ?_
 refine rdx (rd_fieldAddr Tryz.field100_1 rfl) ?_
 refine TO.front2 ?_
 refine TO.store0 (cells' := #[.pointer _, .slice _ _ _]) Tryz.size62 rfl (v := .slice _ _ _) rfl rfl rfl (Nat.le_of_ble_eq_true rfl) rfl ?_
 refine TO.nil ?_
 refine TQ.front1 ?_
 refine TQ.front1 ?_
 refine TQ.conv (fun _ _ h => Seps.tobld (t := []) (.inr rfl) rfl rfl h) ?_
 refine TQ.done (()) (trivial) ?_ (fun _ _ h => h.sel (js := [0]) (by decide)) (res0 Tryz.results116) _ (.inr rfl)
 rfl
end Go.Proofs
end
section
set_option linter.unusedVariables false
set_option linter.unusedSimpArgs false
set_option maxRecDepth 100000
set_option maxHeartbeats 800000
namespace Go.Proofs
open Go.TL
attribute [local irreducible] Go.TL.T Go.TL.TO Go.TL.TQ
theorem Tryz.enters109 : Enters Tryz.prog 109 := fun args w => by kernel_rfl
theorem Tryz.enters110 : Enters Tryz.prog 110 := fun args w => by kernel_rfl
theorem Tryz.enters111 : Enters Tryz.prog 111 := fun args w => by kernel_rfl
theorem Tryz.enters113 : Enters Tryz.prog 113 := fun args w => by kernel_rfl
end Go.Proofs
end
section
set_option linter.unusedVariables false
set_option linter.unusedSimpArgs false
set_option maxRecDepth 100000
set_option maxHeartbeats 800000
namespace Go.Proofs
open Go.TL
attribute [local irreducible] Go.TL.T Go.TL.TO Go.TL.TQ
theorem c_digest_Sum (s : Bytes) (hs : s.length ≤ 1000000000000) : Cv Tryz.prog 106 #[.string (str s)] [glob 0 roundC 162] (.string (str (sha s))) := by
 refine Ctr.introM Tryz.func106 rfl Tryz.ntmps106 (Nat.le_of_ble_eq_true rfl) fun S0 w0 => ?_
 refine T.seq (T.region ?_)
 refine rdx (rd_assign (v := .string _) rfl) ?_
 refine TO.nil (TQ.then_normal (T.seq (T.region ?_)))
 refine rdx (rd_builda (cs := [.int _ _, .int _ _, .int _ _, .int _ _, .int _ _, .int _ _, .int _ _, .int _ _]) Tryz.under155 Tryz.size137 Tryz.zero155 rfl rfl) ?_
 refine TO.alloc Tryz.zero155 (fun b1 => ?_)
 refine TO.store0 (cells' := #[.int _ _, .int _ _, .int _ _, .int _ _, .int _ _, .int _ _, .int _ _, .int _ _]) Tryz.size155 rfl (v := .agg #[.int _ _, .int _ _, .int _ _, .int _ _, .int _ _, .int _ _, .int _ _, .int _ _]) rfl rfl rfl (Nat.le_of_ble_eq_true rfl) rfl ?_
 refine TO.own_eq (cells' := h8C shaH) (by rfl) ?_
 refine TO.nil (TQ.then_normal (T.seq (T.region ?_)))
 refine rdx (rd_move (v := .string _) rfl) ?_
 refine TO.str_bytes Tryz.under9 Tryz.under62 Tryz.under5 rfl (by omega) (fun b3 c4 hc5 => ?_)
 refine TO.buildS (cs := [.int _ _]) Tryz.under62 Tryz.size5 Tryz.zero5 (Nat.le_of_ble_eq_true rfl) rfl (fun b6 => ?_)
 refine TO.front1 ?_
 refine TO.app Tryz.trow5 Tryz.under62 (.inl ⟨_, Tryz.under62⟩) rfl rfl (Src.own1 1 rfl rfl) rfl rfl (by omega) (fun A7 c8 hc9 => ?_)
 refine TO.row_eq (k' := s.length + 1) (cs' := bytesC (s ++ [128] ++ List.replicate 0 0)) rfl (by simp [bytesC_append]; rfl) ?_
 refine rdx (rd_assign (v := .slice _ _ _) rfl) ?_
 refine TO.nil (TQ.then_normal (T.seq (T.block ?_)))
 refine T.loop4 [0, 3] (fun (A : Option Addr) (cap : Nat) (m : Nat) (j : Nat) => [(4, .slice A m cap)]) (fun (A : Option Addr) (cap : Nat) (m : Nat) (j : Nat) => [row 5 1 A m cap (bytesC (s ++ [128] ++ List.replicate j 0))]) (fun (A : Option Addr) (cap : Nat) (m : Nat) (j : Nat) => m = s.length + 1 + j ∧ j ≤ zeros s.length ∧ m ≤ cap) (fun (A : Option Addr) (cap : Nat) (m : Nat) (j : Nat) => zeros s.length - j) (A7) (c8) (s.length + 1) (0) (⟨by omega, Nat.zero_le _, by omega⟩) (And.intro (rfl) (trivial)) (fun _ _ h => h) fun A cap m j g0 hx0 => ?_
 obtain ⟨hm, hj, hmc⟩ := hx0
 have hz63 : zeros s.length ≤ 63 := by simp only [zeros]; omega
 refine T.seq (T.seq (T.region ?_))
 refine rdx (rd_move (v := .slice _ _ _) rfl) ?_
 refine rdx (rd_lensl Tryz.under62 rfl) ?_
 refine rdx (rd_remn (m := 64) rfl rfl rfl (by decide)) ?_
 refine rdx (rd_neq rfl rfl) ?_
 refine TO.nil (TQ.then_normal ?_)
 refine T.cond rfl (fun h10 => ?_) (fun h10 => ?_)
 ·try simp only [nrm] at h10
  refine T.skip (TQ.then_normal (T.block (T.region ?_)))
  refine rdx (rd_move (v := .slice _ _ _) rfl) ?_
  refine TO.buildS (cs := [.int _ _]) Tryz.under62 Tryz.size5 Tryz.zero5 (Nat.le_of_ble_eq_true rfl) rfl (fun b11 => ?_)
  refine TO.front1 ?_
  refine TO.app Tryz.trow5 Tryz.under62 (.inl ⟨_, Tryz.under62⟩) rfl rfl (Src.own1 1 rfl rfl) rfl rfl (by omega) (fun A12 c13 hc14 => ?_)
  refine TO.row_eq (cs' := bytesC (s ++ [128] ++ List.replicate (j + 1) 0)) rfl (by rw [List.replicate_succ', ← List.append_assoc]; exact (bytesC_append (s ++ [128] ++ List.replicate j 0) [0]).symm) ?_
  refine rdx (rd_assign (v := .slice _ _ _) rfl) ?_
  refine TO.nil (TQ.block_normal ?_)
  refine TQ.againk (A12, c13, m + 1, j + 1) ?_ ?_ (And.intro (rfl) (trivial)) (And.intro (rfl) (And.intro (rfl) (trivial))) (fun _ _ h => h.sel (js := [0, 2, 3]) (by decide))
  ·refine ⟨?_, ?_, ?_⟩ <;> dsimp only <;> (try simp only [zeros] at *) <;> omega
  ·(try simp only [zeros] at *); omega
 try simp only [nrm] at h10
 refine T.exit (TQ.then_exit (TQ.then_exit (TQ.block_out (TQ.then_normal (T.seq (T.seq (T.region ?_)))))))
 refine rdx (rd_assign (v := .int _ _) rfl) ?_
 refine TO.nil (TQ.then_normal (T.block ?_))
 refine T.loop5 [0, 3] (fun (A : Option Addr) (cap : Nat) (m : Nat) (l : Bytes) (i : Nat) => [(4, .slice A m cap), (5, .int .i64 ((i : Int) - 1))]) (fun (A : Option Addr) (cap : Nat) (m : Nat) (l : Bytes) (i : Nat) => [row 5 1 A m cap (bytesC l)]) (fun (A : Option Addr) (cap : Nat) (m : Nat) (l : Bytes) (i : Nat) => l ++ len8 s.length i = pad s ∧ m = l.length ∧ i ≤ 8 ∧ m ≤ cap) (fun (A : Option Addr) (cap : Nat) (m : Nat) (l : Bytes) (i : Nat) => i) (A) (cap) (m) (s ++ [128] ++ List.replicate j 0) (8) (⟨by rw [pad, show zeros s.length = j by simp only [zeros] at *; omega], by simp; omega, by omega, by omega⟩) (And.intro (rfl) (And.intro (rfl) (trivial))) (fun _ _ h => h) fun A cap m l i g1 hx1 => ?_
 obtain ⟨hl, hml, hi, hmc⟩ := hx1
 have hm2 : m ≤ s.length + 72 := by
  have := congrArg List.length hl
  simp only [pad, List.length_append, len8_len, List.length_replicate, List.length_cons, List.length_nil] at this
  omega
 refine T.seq (T.seq (T.region ?_))
 refine rdx (rd_move (v := .int _ _) rfl) ?_
 refine rdx (rd_geq rfl rfl) ?_
 refine TO.nil (TQ.then_normal ?_)
 refine T.cond rfl (fun h15 => ?_) (fun h15 => ?_)
 ·try simp only [nrm] at h15
  refine T.skip (TQ.then_normal (T.seq (T.block (T.region ?_))))
  refine rdx (rd_move (v := .slice _ _ _) rfl) ?_
  refine rdx (rd_move (v := .string _) rfl) ?_
  refine rdx (rd_lens' Tryz.under9 rfl) ?_
  refine rdx (rd_mul rfl rfl (w64 (by first | omega | (have := pad_le s; omega)) (by first | omega | (have := pad_le s; omega)))) ?_
  refine rdx (rd_move (v := .int _ _) rfl) ?_
  refine rdx (rd_mul rfl rfl (w64 (by first | omega | (have := pad_le s; omega)) (by first | omega | (have := pad_le s; omega)))) ?_
  refine rdx (rd_shr rfl rfl (by omega) (fdiv_pow (a := 8 * s.length) (q := 8 * (i - 1)) (by omega) (by omega))) ?_
  refine rdx (rd_convert Tryz.isome3 Tryz.under5 rfl (wrap_u8 _)) ?_
  refine TO.buildS (cs := [.int _ _]) Tryz.under62 Tryz.size5 Tryz.zero5 (Nat.le_of_ble_eq_true rfl) rfl (fun b16 => ?_)
  refine TO.front1 ?_
  refine TO.app Tryz.trow5 Tryz.under62 (.inl ⟨_, Tryz.under62⟩) rfl rfl (Src.own1 1 rfl rfl) rfl rfl (by omega) (fun A17 c18 hc19 => ?_)
  refine TO.row_eq (cs' := bytesC (l ++ [UInt8.ofNat (8 * s.length / 2 ^ (8 * (i - 1)))])) rfl (by rw [bytesC_append]; simp [bytesC, UInt8.toNat_ofNat']) ?_
  refine rdx (rd_assign (v := .slice _ _ _) rfl) ?_
  refine TO.nil (TQ.block_normal (TQ.then_normal (T.region ?_)))
  refine rdx (rd_move (v := .int _ _) rfl) ?_
  refine rdx (rd_sub rfl rfl (w64 (by first | omega | (have := pad_le s; omega)) (by first | omega | (have := pad_le s; omega)))) ?_
  refine rdx (rd_assign (v := .int _ _) rfl) ?_
  refine TO.nil ?_
  refine TQ.againk (A17, c18, m + 1, l ++ [UInt8.ofNat (8 * s.length / 2 ^ (8 * (i - 1)))], i - 1) ?_ ?_ (And.intro (rfl) (And.intro (congrArg (Value.int .i64) (by first | omega | (dsimp only; omega))) (trivial))) (And.intro (rfl) (And.intro (rfl) (trivial))) (fun _ _ h => h.sel (js := [0, 2, 3]) (by decide))
  ·refine ⟨?_, by simp; omega, by dsimp only; omega, by dsimp only; omega⟩
   rw [← hl]
   obtain ⟨q, rfl⟩ : ∃ q, i = q + 1 := ⟨i - 1, by omega⟩
   simp [len8_succ]
  ·first | omega | (dsimp only; omega)
 try simp only [nrm] at h15
 refine T.exit (TQ.then_exit (TQ.then_exit (TQ.block_out (TQ.then_normal (T.seq (T.seq (T.region ?_)))))))
 refine rdx (rd_move (v := .slice _ _ _) rfl) ?_
 have hlp : l = pad s := by rw [← hl, show i = 0 by omega]; simp [len8]
 have hm3 : m = (pad s).length := by rw [hml, hlp]
 have hp64 : m % 64 = 0 := by rw [hm3]; exact pad_len s
 have hpl : m ≤ s.length + 72 := by rw [hm3]; exact pad_le s
 refine TO.row_eq (k' := m) (cs' := bytesC (pad s)) rfl (by rw [hlp]) ?_
 refine TO.rowbase (by rw [hm3]; simp only [pad, List.length_append, List.length_cons]; omega) (fun gb hgb hcp hcm => ?_)
 subst hgb
 refine TO.fnx Tryz.enters109 (c_chunk _ _ _) rfl Reads0 (fun ⟨b120, b221⟩ hx22 => ?_)
 refine TO.nil (TQ.then_normal (T.block ?_))
 refine T.front2 ?_
 refine T.front4 ?_
 refine T.range1 (fun k (h : H8) => shaBlocks (m / 64 - k) h ((pad s).drop (64 * k)) = shaBlocks (m / 64) shaH (pad s)) (fun k (h : H8) => [own b1 (h8C h) 155, row 5 1 (some ⟨gb, 0, none⟩) m cap (bytesC (pad s))]) (fun (y : Empty) => False) (fun y => nomatch y) (fun _ => []) (shaH) rfl Tryz.enters113 (c_chunk1 _ _ _ _ _ hp64 hcp hcm) (fun _ _ h => h) (ReadsC (Has.own 0 rfl) (ReadsC (Has.own 1 rfl) Reads0)) (fun _ => rfl) (by rw [Nat.mul_zero, Nat.sub_zero, List.drop_zero]) (fun l0 b0 k h S1 w1 hk hx => ?_) (fun D h hx => ?_) (fun D y hy => ?_)
 ·refine T.region ?_
  refine rdx (rd_assign (v := .slice _ _ _) rfl) ?_
  refine TO.nil ?_
  refine TQ.begin_ ?_
  refine T.block (T.region ?_)
  refine rdx (rd_move (v := .slice _ _ _) rfl) ?_
  refine TO.front1 ?_
  refine TO.hand Tryz.enters110 rfl (c_words_add _ h _ _ _ (((pad s).take (64 * k + 64)).drop (64 * k)) (by simp only [List.length_drop, List.length_take]; omega) (by simp only [List.length_drop, List.length_take]; omega)) rfl rfl (ReadsC (Has.arg 0 rfl) (ReadsC (slc_part (i := 64 * k) (j := 64 * k + 64) (row_slc' (e := eByte) (xs := pad s) (fun _ => rfl) hm3 (bytesC_flat _) (Has.own 1 rfl)) (by omega) (by omega)) Reads0)) (fun _ _ => ?_)
  refine TO.nil (TQ.block_normal ?_)
  refine TQ.rend (shaBlock h (((pad s).take (64 * k + 64)).drop (64 * k))) ?_ (fun _ _ h => h.sel (js := [1, 0, 2]) (by decide))
  ·try dsimp only
   rw [← hx, show m / 64 - k = (m / 64 - (k + 1)) + 1 by omega, shaBlocks_succ, List.drop_drop, List.drop_take]
   rw [show 64 * k + 64 - 64 * k = 64 by omega]
   rfl
 ·refine TQ.block_normal (TQ.then_normal (T.seq (T.region ?_)))
  refine TO.front1 ?_
  refine rdx (rd_load_agg (cs := h8C h) Tryz.agg155 rfl (Has.own 0 rfl) rfl rfl) ?_
  refine TO.fn Tryz.enters111 (c_words_digest _) rfl Reads0 ?_
  refine rdx (rd_assign (v := .string _) rfl) ?_
  refine TO.nil (TQ.then_normal (T.ret ?_))
  refine TQ.front1 ?_
  refine TQ.valueM ?_ (res1 Tryz.results106 (Res.tmp (v := .string _) rfl)) _ (.inl rfl)
  rw [sha, ← hm3, ← hx, Nat.sub_self]; rfl
 exact hy.elim
end Go.Proofs
end
section
set_option linter.unusedVariables false
set_option linter.unusedSimpArgs false
set_option maxRecDepth 100000
set_option maxHeartbeats 800000
namespace Go.Proofs
open Go.TL
attribute [local irreducible] Go.TL.T Go.TL.TO Go.TL.TQ
theorem c_Grow (b tb n : Nat) (hn : n ≤ 100000000000000) (hT : liesAt Tryz.prog Tryz.prog.depth tb (2 / Tryz.prog.cellsOf tb) 0 100 1 = true) : Ctr Tryz.prog 112 #[.pointer (some ⟨b, 0, none⟩), .int .i64 (n : Int)] [] [own b #[.pointer none, .slice none 0 0] tb] (γ := Unit) (fun _ => True) (fun _ => .tuple #[]) (fun _ => [bld 5 tb b []]) := by
 refine Ctr.intro Tryz.func112 rfl Tryz.ntmps112 (Nat.le_of_ble_eq_true rfl) fun S0 w0 => ?_
 refine T.seq (T.region ?_)
 refine rdx (rd_move (v := .pointer _) rfl) ?_
 refine TO.hand Tryz.enters93 rfl (c_copyCheck _ _ _ _ _ _ (by first | assumption | exact .inl rfl | exact .inr rfl) hT) rfl rfl Reads0 (fun _ hx1 => ?_)
 refine TO.nil (TQ.then_normal (T.seq (T.seq (T.region ?_))))
 refine rdx (rd_move (v := .int _ _) rfl) ?_
 refine rdx (rd_lss rfl rfl) ?_
 refine TO.nil (TQ.then_normal ?_)
 refine T.cond rfl (fun h2 => ?_) (fun h2 => ?_)
 ·try simp only [nrm] at h2
  exfalso
  first | omega | (simp at h2; done) | (simp at h2; omega)
 try simp only [nrm] at h2
 refine T.skip (TQ.then_normal (T.seq ?_))
 refine T.drawq Tryz.mixes 12 [(9, 0), (10, 1), (11, 2), (12, 3), (13, 4), (14, 5), (15, 6), (16, 7), (17, 8), (18, 9), (19, 10), (20, 11)] [0, 1, 3, 7, 15, 0, 32, 96, 224, 480, 1023, 0, 4095] (by kernel_rfl) ?_
 refine DQ.rd rfl rfl (fun _ => rd_move (v := .pointer _) rfl) ?_
 refine DQ.rd rfl rfl (fun _ => rd_nilCheck rfl) ?_
 refine DQ.rd rfl rfl (fun _ => rd_fieldAddr Tryz.field100_1 rfl) ?_
 refine DQ.rd rfl rfl (fun _ => rd_load (v := .slice _ _ _) Tryz.one62 rfl (Has.own 0 rfl) rfl) ?_
 refine DQ.rd rfl rfl (fun _ => rd_capl Tryz.under62 rfl) ?_
 refine DQ.rd rfl rfl (fun _ => rd_move (v := .pointer _) rfl) ?_
 refine DQ.rd rfl rfl (fun _ => rd_nilCheck rfl) ?_
 refine DQ.rd rfl rfl (fun _ => rd_fieldAddr Tryz.field100_1 rfl) ?_
 refine DQ.rd rfl rfl (fun _ => rd_load (v := .slice _ _ _) Tryz.one62 rfl (Has.own 0 rfl) rfl) ?_
 refine DQ.rd rfl rfl (fun _ => rd_lensl Tryz.under62 rfl) ?_
 refine DQ.rd rfl rfl (fun _ => rd_sub rfl rfl (w64 (by omega) (by omega))) ?_
 refine DQ.rd rfl rfl (fun _ => rd_move (v := .int _ _) rfl) ?_
 refine DQ.done rfl ?_
 refine rdx (rd_lss rfl rfl) ?_
 refine TO.nil (TQ.then_normal ?_)
 refine T.cond_ft rfl (fun h3 => ?_) (fun h3 => ?_)
 ·try simp only [nrm] at h3
  refine T.skip ?_
  refine TQ.newrow 5 1 ?_
  refine TQ.front1 ?_
  refine TQ.conv (fun _ _ h => Seps.tobld (t := []) (.inr rfl) rfl rfl h) ?_
  refine TQ.done (()) (trivial) ?_ (fun _ _ h => h.sel (js := [0]) (by decide)) (res0 Tryz.results112) _ (.inr rfl)
  rfl
 try simp only [nrm] at h3
 refine T.region ?_
 refine rdx (rd_move (v := .pointer _) rfl) ?_
 refine rdx (rd_move (v := .int _ _) rfl) ?_
 refine TO.hand Tryz.enters116 rfl (c_grow _ _ _ (by omega)) rfl rfl Reads0 (fun _ hx4 => ?_)
 refine TO.nil ?_
 refine TQ.done (()) (trivial) ?_ (fun _ _ h => h.sel (js := [0]) (by decide)) (res0 Tryz.results112) _ (.inr rfl)
 rfl
theorem c_Join (A : Option Addr) (cap n : Nat) (l : List Bytes) (hn : n = l.length) (hcap : l.length ≤ cap) (hl : l.length ≤ 1000) (hl1 : 1 ≤ l.length) (hne : l.flatten ≠ []) (ht : l.flatten.length ≤ 900000000000) : Cv Tryz.prog 107 #[.slice A n cap, .string (str [])] [slc eStr 1 A l] (.string (str l.flatten)) := by
 subst hn
 have hrl : ((l.take l.length).drop 1).length = l.length - 1 := by simp
 refine Ctr.intro Tryz.func107 rfl Tryz.ntmps107 (Nat.le_of_ble_eq_true rfl) fun S0 w0 => ?_
 refine T.seq (T.region ?_)
 refine rdx (rd_assign (v := .string _) rfl) ?_
 refine TO.nil (TQ.then_normal (T.seq (T.seq (T.region ?_))))
 refine rdx (rd_move (v := .slice _ _ _) rfl) ?_
 refine rdx (rd_lensl Tryz.under32 rfl) ?_
 refine TO.nil (TQ.then_normal (T.block (T.seq (T.region ?_))))
 refine rdx (rd_eql rfl rfl) ?_
 refine rdx (rd_assign (v := .bool _) rfl) ?_
 refine TO.nil (TQ.then_normal ?_)
 refine T.cond rfl (fun h1 => ?_) (fun h1 => ?_)
 ·try simp only [nrm] at h1
  exfalso
  first | omega | (simp at h1; done) | (simp at h1; omega)
 try simp only [nrm] at h1
 refine T.seq (T.region ?_)
 refine rdx (rd_eql rfl rfl) ?_
 refine rdx (rd_assign (v := .bool _) rfl) ?_
 refine TO.nil (TQ.then_normal ?_)
 refine T.cond rfl (fun h2 => ?_) (fun h2 => ?_)
 ·try simp only [nrm] at h2
  refine T.seq (T.region ?_)
  refine rdx (rd_move (v := .slice _ _ _) rfl) ?_
  refine rdx (rd_ix (k := 0) Tryz.under32 Tryz.size9 rfl rfl (Has.arg 0 rfl) rfl (by omega) (by omega)) ?_
  refine rdx (rd_el (v := .string _) 0 0 Tryz.one9 rfl (Has.arg 0 rfl) rfl (by omega) (Nat.le_of_ble_eq_true rfl) rfl) ?_
  refine rdx (rd_assign (v := .string _) rfl) ?_
  refine TO.nil (TQ.then_normal (T.ret (TQ.block_ret (TQ.then_ret ?_))))
  refine TQ.value ?_ (res1 Tryz.results107 (Res.tmp (v := .string _) rfl)) _ (.inl rfl)
  rw [one_flat (by omega)]
 try simp only [nrm] at h2
 refine T.skip (TQ.block_normal (TQ.then_normal (T.seq (T.region ?_))))
 refine rdx (rd_assign (v := .int _ _) rfl) ?_
 refine TO.nil (TQ.then_normal (T.seq (T.seq (T.region ?_))))
 refine rdx (rd_move (v := .string _) rfl) ?_
 refine rdx (rd_lens' Tryz.under9 rfl) ?_
 refine rdx (rd_gtr rfl rfl) ?_
 refine TO.nil (TQ.then_normal ?_)
 refine T.cond rfl (fun h3 => ?_) (fun h3 => ?_)
 ·try simp only [nrm] at h3
  exfalso
  first | omega | (simp at h3; done) | (simp at h3; omega)
 try simp only [nrm] at h3
 refine T.skip (TQ.then_normal (T.seq (T.seq (T.region ?_))))
 refine rdx (rd_move (v := .slice _ _ _) rfl) ?_
 refine rdx (rd_lensl Tryz.under32 rfl) ?_
 refine rdx (rd_move (v := .int _ _) rfl) ?_
 refine TO.nil (TQ.then_normal (T.block ?_))
 refine T.loop1 [0, 1, 39, 40] (fun (k : Nat) => [(5, .int .i64 ((l.take k).flatten.length : Nat)), (41, .int .i64 (k : Nat))]) (fun (k : Nat) => []) (fun (k : Nat) => k ≤ l.length) (fun (k : Nat) => l.length - k) (0) (Nat.zero_le _) (And.intro (rfl) (And.intro (rfl) (trivial))) (fun _ _ h => h) fun k g0 hx0 => ?_
 refine T.seq (T.region ?_)
 refine rdx (rd_lss rfl rfl) ?_
 refine TO.nil (TQ.then_normal (T.seq ?_))
 refine T.cond rfl (fun h4 => ?_) (fun h4 => ?_)
 ·try simp only [nrm] at h4
  refine T.skip (TQ.then_normal (T.seq (T.block (T.seq (T.region ?_)))))
  refine rdx (rd_ix Tryz.under32 Tryz.size9 rfl rfl (Has.arg 0 rfl) rfl (by omega) (by omega)) ?_
  refine rdx (rd_el (v := .string _) _ 0 Tryz.one9 rfl (Has.arg 0 rfl) rfl (by omega) (Nat.le_of_ble_eq_true rfl) rfl) ?_
  have hst := flat_step (l := l) (k := k) (by omega)
  refine rdx (rd_assign (v := .string _) rfl) ?_
  refine TO.nil (TQ.then_normal (T.seq (T.seq (T.region ?_))))
  refine rdx (rd_move (v := .string _) rfl) ?_
  refine rdx (rd_lens' Tryz.under9 rfl) ?_
  refine rdx (rd_move (v := .int _ _) rfl) ?_
  refine rdx (rd_sub rfl rfl (w64 (by omega) (by omega))) ?_
  refine rdx (rd_gtr rfl rfl) ?_
  refine TO.nil (TQ.then_normal ?_)
  refine T.cond rfl (fun h5 => ?_) (fun h5 => ?_)
  ·try simp only [nrm] at h5
   exfalso
   first | omega | (simp at h5; done) | (simp at h5; omega)
  try simp only [nrm] at h5
  refine T.skip (TQ.then_normal (T.region ?_))
  refine rdx (rd_move (v := .int _ _) rfl) ?_
  refine rdx (rd_move (v := .string _) rfl) ?_
  refine rdx (rd_lens' Tryz.under9 rfl) ?_
  refine rdx (rd_add rfl rfl (w64 (by omega) (by omega))) ?_
  refine rdx (rd_assign (v := .int _ _) rfl) ?_
  refine TO.nil (TQ.block_normal (TQ.then_normal (T.region ?_)))
  refine rdx (rd_add rfl rfl (w64 (by omega) (by omega))) ?_
  refine rdx (rd_move (v := .int _ _) rfl) ?_
  refine TO.nil ?_
  refine TQ.againk (k + 1) ?_ ?_ (And.intro (congrArg (Value.int .i64) (by rw [hst.1]; push_cast; rfl)) (And.intro (rfl) (trivial))) (And.intro (rfl) (And.intro (rfl) (And.intro (rfl) (And.intro (rfl) (trivial))))) (fun _ _ h => h)
  ·first | omega | (dsimp only; omega)
  ·first | omega | (dsimp only; omega)
 try simp only [nrm] at h4
 refine T.exit (TQ.then_exit (TQ.then_exit (TQ.block_out (TQ.then_normal (T.seq (T.region ?_))))))
 refine TO.alloc Tryz.zero100 (fun b6 => ?_)
 refine TO.nil (TQ.then_normal (T.seq (T.region ?_)))
 refine rdx (rd_move (v := .int _ _) rfl) ?_
 have hflat : l.take k = l := List.take_of_length_le (by omega)
 rw [hflat]
 refine TO.hand Tryz.enters112 rfl (c_Grow _ _ _ (by omega) (by first | exact Tryz.lies102_100 | exact Tryz.lies100_100)) rfl rfl Reads0 (fun _ hx7 => ?_)
 refine TO.nil (TQ.then_normal (T.seq (T.region ?_)))
 refine rdx (rd_move (v := .slice _ _ _) rfl) ?_
 have hst0 := flat_step (l := l) (k := 0) (by omega)
 refine rdx (rd_ix (k := 0) Tryz.under32 Tryz.size9 rfl rfl (Has.arg 0 rfl) rfl (by omega) (by omega)) ?_
 refine rdx (rd_el (v := .string _) 0 0 Tryz.one9 rfl (Has.arg 0 rfl) rfl (by omega) (Nat.le_of_ble_eq_true rfl) rfl) ?_
 refine TO.hand Tryz.enters65 rfl (c_WriteString _ _ _ _ (by first | exact Tryz.lies102_100 | exact Tryz.lies100_100) (by first | omega | exact wishText_le _ | exact proxyText_le _ | exact puts3_le _ _ _ | (simp only [List.length_append, List.length_cons, List.length_nil, sha_len, leafOf_len, nodeOf_len, sealOf_len, List.length_take, List.length_drop]; omega) | (rw [keyB_len]; omega))) rfl rfl Reads0 (fun _ hx8 => ?_)
 refine TO.bld_eq (l[0]'(by omega) ++ (((l.take l.length).drop 1).take 0).flatten) (by simp) ?_
 refine TO.nil (TQ.then_normal (T.seq (T.seq (T.region ?_))))
 refine rdx (rd_move (v := .slice _ _ _) rfl) ?_
 refine rdx (rd_sub_slice (i := 1) (j := l.length) Tryz.under32 Tryz.size9 rfl (.inr ⟨_, rfl⟩) (.inl ⟨rfl, rfl⟩) (by omega) (by omega) hcap) ?_
 refine rdx (rd_lensl Tryz.under32 rfl) ?_
 refine rdx (rd_move (v := .int _ _) rfl) ?_
 refine TO.nil (TQ.then_normal (T.block ?_))
 refine T.loop1 [1, 8, 63, 64] (fun (k : Nat) => [(65, .int .i64 (k : Nat))]) (fun (k : Nat) => [bld 5 100 b6 (l[0]'(by omega) ++ (((l.take l.length).drop 1).take k).flatten)]) (fun (k : Nat) => k ≤ l.length - 1) (fun (k : Nat) => l.length - 1 - k) (0) (Nat.zero_le _) (And.intro (rfl) (trivial)) (fun _ _ h => h) fun k g1 hx1 => ?_
 refine T.seq (T.region ?_)
 refine rdx (rd_lss rfl rfl) ?_
 refine TO.nil (TQ.then_normal (T.seq ?_))
 refine T.cond_ft rfl (fun h9 => ?_) (fun h9 => ?_)
 ·try simp only [nrm] at h9
  refine T.exit (TQ.then_exit (TQ.then_exit (TQ.block_out (TQ.then_normal (T.seq (T.region ?_))))))
  refine TO.hand Tryz.enters66 rfl (c_String _ _ _ (by rw [List.take_of_length_le (show ((l.take l.length).drop 1).length ≤ k by simp only [List.length_drop, List.length_take]; omega), flat_cons hl1]; exact hne)) rfl rfl Reads0 (fun _ hx12 => ?_)
  refine rdx (rd_assign (v := .string _) rfl) ?_
  refine TO.nil (TQ.then_normal (T.ret ?_))
  refine TQ.value ?_ (res1 Tryz.results107 (Res.tmp (v := .string _) rfl)) _ (.inl rfl)
  rw [← flat_cons hl1, List.take_of_length_le (show ((l.take l.length).drop 1).length ≤ k by simp only [List.length_drop, List.length_take]; omega)]
 try simp only [nrm] at h9
 refine T.skip (TQ.then_normal (T.seq (T.block (T.seq (T.region ?_)))))
 refine rdx (rd_ix Tryz.under32 Tryz.size9 rfl rfl (slc_sub (i := 1) (j := l.length) (Has.arg 0 rfl) (by omega) (Nat.le_refl _) hcap) rfl (by omega) (by omega)) ?_
 refine rdx (rd_el (v := .string _) _ 0 Tryz.one9 rfl (slc_sub (i := 1) (j := l.length) (Has.arg 0 rfl) (by omega) (Nat.le_refl _) hcap) rfl (by omega) (Nat.le_of_ble_eq_true rfl) rfl) ?_
 have hst := flat_step2 (l := l) (k := k) hl1 (by simp only [List.length_drop, List.length_take]; omega)
 refine rdx (rd_assign (v := .string _) rfl) ?_
 refine TO.nil (TQ.then_normal (T.seq (T.region ?_)))
 refine rdx (rd_move (v := .string _) rfl) ?_
 refine TO.hand Tryz.enters65 rfl (c_WriteString _ _ _ _ (by first | exact Tryz.lies102_100 | exact Tryz.lies100_100) (by first | omega | exact wishText_le _ | exact proxyText_le _ | exact puts3_le _ _ _ | (simp only [List.length_append, List.length_cons, List.length_nil, sha_len, leafOf_len, nodeOf_len, sealOf_len, List.length_take, List.length_drop]; omega) | (rw [keyB_len]; omega))) rfl rfl Reads0 (fun _ hx10 => ?_)
 refine TO.bld_eq (l[0]'(by omega) ++ (((l.take l.length).drop 1).take k).flatten) (by simp) ?_
 refine TO.nil (TQ.then_normal (T.region ?_))
 refine rdx (rd_move (v := .string _) rfl) ?_
 refine TO.hand Tryz.enters65 rfl (c_WriteString _ _ _ _ (by first | exact Tryz.lies102_100 | exact Tryz.lies100_100) (by first | omega | exact wishText_le _ | exact proxyText_le _ | exact puts3_le _ _ _ | (simp only [List.length_append, List.length_cons, List.length_nil, sha_len, leafOf_len, nodeOf_len, sealOf_len, List.length_take, List.length_drop]; omega) | (rw [keyB_len]; omega))) rfl rfl Reads0 (fun _ hx11 => ?_)
 refine TO.bld_eq (l[0]'(by omega) ++ (((l.take l.length).drop 1).take (k + 1)).flatten) (by rw [← take_snoc (by simp only [List.length_drop, List.length_take]; omega)]; simp [List.append_assoc]) ?_
 refine TO.nil (TQ.block_normal (TQ.then_normal (T.region ?_)))
 refine rdx (rd_add rfl rfl (w64 (by omega) (by omega))) ?_
 refine rdx (rd_move (v := .int _ _) rfl) ?_
 refine TO.nil ?_
 refine TQ.againk (k + 1) ?_ ?_ (And.intro (rfl) (trivial)) (And.intro (rfl) (And.intro (rfl) (And.intro (rfl) (And.intro (rfl) (trivial))))) (fun _ _ h => h)
 ·first | omega | (dsimp only; omega)
 ·first | omega | (dsimp only; omega)
end Go.Proofs
end
section
set_option linter.unusedVariables false
set_option linter.unusedSimpArgs false
set_option maxRecDepth 100000
set_option maxHeartbeats 800000
namespace Go.Proofs
open Go.TL
attribute [local irreducible] Go.TL.T Go.TL.TO Go.TL.TQ
theorem c_marked1 (bm : Nat) (mk : Bytes) (A : Option Addr) (cap n : Nat) (l : List Bytes) (hn : n = l.length) (hcap : l.length ≤ cap) (hl : l.length ≤ 1000) (hl1 : 1 ≤ l.length) (hne : l.flatten ≠ []) (ht : l.flatten.length ≤ 900000000000) (hm : mk.length ≤ 1000) : Cv Tryz.prog 105 #[.slice A n cap, .pointer (some ⟨bm, 0, none⟩)] [glob 0 roundC 162, own bm #[.string (str mk)] 9, slc eStr 1 A l] (.string (str (sha (mk ++ l.flatten)))) := by
 subst hn
 refine Ctr.intro Tryz.func105 rfl Tryz.ntmps105 (Nat.le_of_ble_eq_true rfl) fun S0 w0 => ?_
 refine T.seq (T.region ?_)
 refine rdx (rd_assign (v := .string _) rfl) ?_
 refine TO.nil (TQ.then_normal (T.seq ?_))
 refine T.drawq Tryz.mixes 3 [(4, 0), (5, 1), (6, 2)] [0, 0, 2, 7, 15, 31] (by kernel_rfl) ?_
 refine DQ.rd rfl rfl (fun _ => rd_load (v := .string _) Tryz.one9 rfl (Has.arg 1 rfl) rfl) ?_
 refine DQ.rd rfl rfl (fun _ => rd_move (v := .slice _ _ _) rfl) ?_
 refine DQ.fn rfl Tryz.enters107 (c_Join _ _ _ l rfl hcap hl hl1 hne ht) (fun _ => rfl) (ReadsC (Has.arg 2 rfl) Reads0) ?_
 refine DQ.done rfl ?_
 refine rdx (rd_cat' rfl rfl (by omega) rfl) ?_
 refine TO.fn Tryz.enters106 (c_digest_Sum _ (by first | omega | exact wishText_le _ | exact proxyText_le _ | exact puts3_le _ _ _ | (simp only [List.length_append, List.length_cons, List.length_nil, sha_len, leafOf_len, nodeOf_len, sealOf_len, List.length_take, List.length_drop]; omega) | (rw [keyB_len]; omega))) rfl (ReadsC (Has.arg 0 rfl) Reads0) ?_
 refine rdx (rd_assign (v := .string _) rfl) ?_
 refine TO.nil (TQ.then_normal (T.ret ?_))
 refine TQ.value ?_ (res1 Tryz.results105 (Res.tmp (v := .string _) rfl)) _ (.inl rfl)
 rfl
theorem c_marked (mk : Bytes) : Ctr Tryz.prog 99 #[.string (str mk)] [] [] (γ := Nat) (fun x => True) (fun x => .func (.func 105) #[] #[.pointer (some ⟨x, 0, none⟩)]) (fun x => [own x #[.string (str mk)] 9]) := by
 refine Ctr.intro Tryz.func99 rfl Tryz.ntmps99 (Nat.le_of_ble_eq_true rfl) fun S0 w0 => ?_
 refine T.seq (T.region ?_)
 refine TO.box (v := .string _) rfl (fun b1 => ?_)
 refine rdx (rd_assign (v := .nilFunc) rfl) ?_
 refine TO.nil (TQ.then_normal (T.seq (T.region ?_)))
 refine rdx (rd_clo (b := [_]) rfl) ?_
 refine rdx (rd_assign (v := .func _ _ _) rfl) ?_
 refine TO.nil (TQ.then_normal (T.ret ?_))
 refine TQ.done (b1) (trivial) ?_ (fun _ _ h => h.sel (js := [0]) (by decide)) (res1 Tryz.results99 (Res.tmp (v := .func _ _ _) rfl)) _ (.inl rfl)
 rfl
theorem c_digest_Leaf (s : Bytes) (hs0 : s ≠ []) (hs : s.length ≤ 800000000000) : Cv Tryz.prog 88 #[.string (str s)] [glob 0 roundC 162] (.string (str (leafOf s))) := by
 refine Ctr.intro Tryz.func88 rfl Tryz.ntmps88 (Nat.le_of_ble_eq_true rfl) fun S0 w0 => ?_
 refine T.seq (T.region ?_)
 refine rdx (rd_assign (v := .string _) rfl) ?_
 refine TO.nil (TQ.then_normal (T.seq (T.region ?_)))
 refine TO.fnx Tryz.enters99 (c_marked _) rfl Reads0 (fun b1 hx2 => ?_)
 refine rdx (rd_move (v := .string _) rfl) ?_
 refine TO.buildS (cs := [.string _]) Tryz.under32 Tryz.size9 Tryz.zero9 (Nat.le_of_ble_eq_true rfl) rfl (fun b4 => ?_)
 refine TO.hand Tryz.enters105 rfl (c_marked1 _ _ _ _ _ [s] (by first | rfl | simp) (by first | exact Nat.le_refl _ | simp) (by simp) (by simp) (by simpa using hs0) (by simp; omega) (by simp)) rfl rfl (ReadsC (Has.arg 0 rfl) (ReadsC (Has.own 1 rfl) (ReadsC (own_slc (e := eStr) [s] rfl (fun _ => rfl) (Has.own 0 rfl) (by simp)) Reads0))) (fun _ hx5 => ?_)
 refine rdx (rd_assign (v := .string _) rfl) ?_
 refine TO.nil (TQ.then_normal (T.ret ?_))
 refine TQ.value ?_ (res1 Tryz.results88 (Res.tmp (v := .string _) rfl)) _ (.inl rfl)
 simp [leafOf]
theorem c_digest_Node (a b : Bytes) (hb0 : b ≠ []) (ha : a.length ≤ 100000000000) (hb : b.length ≤ 100000000000) : Cv Tryz.prog 87 #[.string (str a), .string (str b)] [glob 0 roundC 162] (.string (str (nodeOf a b))) := by
 refine Ctr.intro Tryz.func87 rfl Tryz.ntmps87 (Nat.le_of_ble_eq_true rfl) fun S0 w0 => ?_
 refine T.seq (T.region ?_)
 refine rdx (rd_assign (v := .string _) rfl) ?_
 refine TO.nil (TQ.then_normal (T.seq (T.region ?_)))
 refine TO.fnx Tryz.enters99 (c_marked _) rfl Reads0 (fun b1 hx2 => ?_)
 refine rdx (rd_move (v := .string _) rfl) ?_
 refine rdx (rd_move (v := .string _) rfl) ?_
 refine TO.buildS (cs := [.string _, .string _]) Tryz.under32 Tryz.size9 Tryz.zero9 (Nat.le_of_ble_eq_true rfl) rfl (fun b4 => ?_)
 refine TO.hand Tryz.enters105 rfl (c_marked1 _ _ _ _ _ [a, b] (by first | rfl | simp) (by first | exact Nat.le_refl _ | simp) (by simp) (by simp) (by simp [hb0]) (by simp; omega) (by simp)) rfl rfl (ReadsC (Has.arg 0 rfl) (ReadsC (Has.own 1 rfl) (ReadsC (own_slc (e := eStr) [a, b] rfl (fun _ => rfl) (Has.own 0 rfl) (by simp)) Reads0))) (fun _ hx5 => ?_)
 refine rdx (rd_assign (v := .string _) rfl) ?_
 refine TO.nil (TQ.then_normal (T.ret ?_))
 refine TQ.value ?_ (res1 Tryz.results87 (Res.tmp (v := .string _) rfl)) _ (.inl rfl)
 simp [nodeOf]
end Go.Proofs
end
section
set_option linter.unusedVariables false
set_option linter.unusedSimpArgs false
set_option maxRecDepth 100000
set_option maxHeartbeats 800000
namespace Go.Proofs
open Go.TL
attribute [local irreducible] Go.TL.T Go.TL.TO Go.TL.TQ
theorem Tryz.enters92 : Enters Tryz.prog 92 := fun args w => by kernel_rfl
end Go.Proofs
end
section
set_option linter.unusedVariables false
set_option linter.unusedSimpArgs false
set_option maxRecDepth 100000
set_option maxHeartbeats 800000
namespace Go.Proofs
open Go.TL
attribute [local irreducible] Go.TL.T Go.TL.TO Go.TL.TQ
theorem Tryz.one146 : TyOne Tryz.prog 146 := ⟨fun w => by kernel_rfl, fun w => by kernel_rfl⟩
theorem Tryz.size146 : ∀ w, (sizeOf 146).run Tryz.prog w = .ok 1 w := fun w => by kernel_rfl
theorem Tryz.zero62 : TyZero Tryz.prog 62 (.slice none 0 0) := fun w => by kernel_rfl
theorem Tryz.enters100 : Enters Tryz.prog 100 := fun args w => by kernel_rfl
theorem Tryz.enters108 : Enters Tryz.prog 108 := fun args w => by kernel_rfl
end Go.Proofs
end
section
set_option linter.unusedVariables false
set_option linter.unusedSimpArgs false
set_option maxRecDepth 100000
set_option maxHeartbeats 800000
namespace Go.Proofs
open Go.TL
attribute [local irreducible] Go.TL.T Go.TL.TO Go.TL.TQ
theorem c_groups1 (z b : Nat) (hz : z < 18446744073709551616) : ICtr Tryz.prog 108 [.pointer (some ⟨b, 0, none⟩)] [] [own b #[.int .u64 (z : Int)] 146] ((vint z).length) (fun k => [.int .u8 ((z / 128 ^ k % 128 : Nat) : Int), .bool (decide (((z / 128 ^ k : Nat) : Int) < 128))]) := by
 intro l G J Js hY
 refine Ctr.intro Tryz.func108 rfl Tryz.ntmps108 (Nat.le_of_ble_eq_true rfl) fun S0 w0 => ?_
 refine T.block ?_
 refine T.front1 ?_
 refine T.front1 ?_
 refine T.loop1 [0, 1] (fun (k : Nat) => []) (fun (k : Nat) => [J k, own b #[.int .u64 ((z / 128 ^ k : Nat) : Int)] 146]) (fun (k : Nat) => k < (vint z).length) (fun (k : Nat) => (vint z).length - k) (0) ((vint_len z).1) (trivial) (fun S w h => by simpa using h) fun k g0 hx0 => ?_
 refine T.block (T.seq (T.region ?_))
 refine rdx (rd_load (v := .int _ _) Tryz.one146 rfl (Has.own 1 rfl) rfl) ?_
 refine rdx (rd_lss rfl rfl) ?_
 refine rdx (rd_assign (v := .bool _) rfl) ?_
 refine TO.nil (TQ.then_normal (T.seq (T.seq (T.region ?_))))
 refine rdx (rd_move (v := .func _ _ _) rfl) ?_
 refine rdx (rd_load (v := .int _ _) Tryz.one146 rfl (Has.own 1 rfl) rfl) ?_
 refine rdx (rd_and127 rfl rfl rfl (Nat.lt_of_le_of_lt (Nat.div_le_self _ _) hz)) ?_
 refine rdx (rd_convert Tryz.isome146 Tryz.under5 rfl (show IntKind.u8.wrap _ = ((z / 128 ^ k % 128 : Nat) : Int) from by rw [wrap_u8]; omega)) ?_
 refine rdx (rd_move (v := .bool _) rfl) ?_
 refine TO.yield2 rfl (hY k hx0) rfl (fun X hX => Has.mem (List.mem_append_right _ hX)) ?_ ?_
 ·refine rdx (rd_not rfl) ?_
  refine rdx (rd_move (v := .bool _) rfl) ?_
  refine TO.guard_false (s := 13) (b' := true) rfl rfl nofun ?_
  refine rdx (rd_pick_true (v := .bool _) rfl rfl) ?_
  refine TO.nil (TQ.then_normal ?_)
  refine T.cond_true rfl ?_
  refine T.ret (TQ.then_ret (TQ.block_ret (TQ.then_ret (TQ.block_ret ?_))))
  refine TQ.done (false) (trivial) ?_ (fun _ _ h => h.sel (js := [0]) (by decide)) (res0 Tryz.results108) _ (.inl rfl)
  rfl
 refine rdx (rd_not rfl) ?_
 refine rdx (rd_move (v := .bool _) rfl) ?_
 refine TO.guard_true (s := 13) rfl rfl ?_
 refine rdx (rd_move (v := .bool _) rfl) ?_
 refine rdx (rd_pick_false (v := .bool _) rfl rfl) ?_
 refine TO.nil (TQ.then_normal ?_)
 refine T.cond rfl (fun h1 => ?_) (fun h1 => ?_)
 ·try simp only [nrm] at h1
  refine T.ret (TQ.then_ret (TQ.block_ret (TQ.then_ret (TQ.block_ret ?_))))
  have hv := (vint_at hz hx0).2
  refine TQ.done (true) (trivial) ?_ (fun _ _ h => by rw [show (vint z).length = k + 1 by omega]; exact h.sel (js := [0]) (by decide)) (res0 Tryz.results108) _ (.inl rfl)
  rfl
 try simp only [nrm] at h1
 refine T.skip (TQ.then_normal (T.region ?_))
 refine rdx (rd_load (v := .int _ _) Tryz.one146 rfl (Has.own 1 rfl) rfl) ?_
 refine rdx (rd_shr7' (q := z / 128 ^ (k + 1)) rfl rfl rfl (by rw [Nat.div_div_eq_div_mul, Nat.pow_succ])) ?_
 refine TO.front1 ?_
 refine TO.store0 (cells' := #[.int _ _]) Tryz.size146 rfl (v := .int _ _) rfl rfl rfl (Nat.le_of_ble_eq_true rfl) rfl ?_
 refine TO.nil (TQ.block_normal ?_)
 have hv := (vint_at hz hx0).2
 have hk1 : k + 1 < (vint z).length := by omega
 refine TQ.againk (k + 1) ?_ ?_ (trivial) (And.intro (rfl) (And.intro (rfl) (trivial))) (fun _ _ h => h.sel (js := [1, 0]) (by decide))
 ·exact hk1
 ·omega
theorem c_groups (z : Int) : Ctr Tryz.prog 100 #[.int .u64 z] [] [] (γ := Nat) (fun x => True) (fun x => .func (.func 108) #[] #[.pointer (some ⟨x, 0, none⟩)]) (fun x => [own x #[.int .u64 z] 146]) := by
 refine Ctr.intro Tryz.func100 rfl Tryz.ntmps100 (Nat.le_of_ble_eq_true rfl) fun S0 w0 => ?_
 refine T.seq (T.region ?_)
 refine TO.box (v := .int _ _) rfl (fun b1 => ?_)
 refine rdx (rd_assign (v := .nilFunc) rfl) ?_
 refine TO.nil (TQ.then_normal (T.seq (T.region ?_)))
 refine rdx (rd_clo (b := [_]) rfl) ?_
 refine rdx (rd_assign (v := .func _ _ _) rfl) ?_
 refine TO.nil (TQ.then_normal (T.ret ?_))
 refine TQ.done (b1) (trivial) ?_ (fun _ _ h => h.sel (js := [0]) (by decide)) (res1 Tryz.results100 (Res.tmp (v := .func _ _ _) rfl)) _ (.inl rfl)
 rfl
theorem c_wire_PutInt (n : Int) : Cv Tryz.prog 92 #[.int .i64 n] [] (.tuple #[.string (str (putInt n)), .int .i64 (putErr n)]) := by
 refine Ctr.introM Tryz.func92 rfl Tryz.ntmps92 (Nat.le_of_ble_eq_true rfl) fun S0 w0 => ?_
 refine T.seq (T.region ?_)
 refine rdx (rd_assign (v := .string _) rfl) ?_
 refine rdx (rd_assign (v := .int _ _) rfl) ?_
 refine TO.nil (TQ.then_normal (T.seq (T.seq (T.region ?_))))
 refine rdx (rd_move (v := .int _ _) rfl) ?_
 refine rdx (rd_lss rfl rfl) ?_
 refine rdx (rd_move (v := .bool _) rfl) ?_
 refine TO.decide (s := 9) rfl (fun h1 => ?_) (fun h1 => ?_)
 ·try simp only [nrm] at h1
  refine TO.guard_false (s := 9) (b' := true) rfl rfl nofun ?_
  refine TO.guard_false (s := 9) (b' := true) rfl rfl nofun ?_
  refine rdx (rd_pick_true (v := .bool _) rfl rfl) ?_
  refine TO.nil (TQ.then_normal ?_)
  refine T.cond_true rfl ?_
  refine T.seq (T.region ?_)
  refine rdx (rd_assign (v := .string _) rfl) ?_
  refine rdx (rd_assign (v := .int _ _) rfl) ?_
  refine TO.nil (TQ.then_normal (T.ret (TQ.then_ret ?_)))
  refine TQ.valueN ?_ (res2 Tryz.results92 (Res.tmp (v := .string _) rfl) (Res.tmp (v := .int _ _) rfl)) _ (.inl rfl)
  rw [putInt, putErr, if_neg (by omega), if_neg (by omega)]; rfl
 try simp only [nrm] at h1
 refine TO.guard_true (s := 9) rfl rfl ?_
 refine rdx (rd_move (v := .int _ _) rfl) ?_
 refine TO.guard_true (s := 9) rfl rfl ?_
 refine rdx (rd_gtr rfl rfl) ?_
 refine rdx (rd_pick_false (v := .bool _) rfl rfl) ?_
 refine TO.nil (TQ.then_normal ?_)
 refine T.cond rfl (fun h2 => ?_) (fun h2 => ?_)
 ·try simp only [nrm] at h2
  refine T.seq (T.region ?_)
  refine rdx (rd_assign (v := .string _) rfl) ?_
  refine rdx (rd_assign (v := .int _ _) rfl) ?_
  refine TO.nil (TQ.then_normal (T.ret (TQ.then_ret ?_)))
  refine TQ.valueN ?_ (res2 Tryz.results92 (Res.tmp (v := .string _) rfl) (Res.tmp (v := .int _ _) rfl)) _ (.inl rfl)
  rw [putInt, putErr, if_neg (by omega), if_neg (by omega)]; rfl
 try simp only [nrm] at h2
 refine T.skip (TQ.then_normal (T.seq (T.region ?_)))
 refine TO.alloc Tryz.zero62 (fun b3 => ?_)
 refine TO.newrow 5 1 ?_
 refine TO.nil (TQ.then_normal (T.seq (T.seq (T.region ?_))))
 refine rdx (rd_move (v := .int _ _) rfl) ?_
 refine rdx (rd_convert Tryz.isome3 Tryz.under146 rfl rfl) ?_
 refine rdx (rd_shl rfl rfl (by omega) (zz_shl n)) ?_
 refine rdx (rd_move (v := .int _ _) rfl) ?_
 refine rdx (rd_shr rfl rfl (by first | decide | omega) rfl) ?_
 refine rdx (rd_convert Tryz.isome3 Tryz.under146 rfl (zz_sgn (by omega) (by omega))) ?_
 refine rdx (rd_xor rfl rfl (zz_zig (by omega) (by omega))) ?_
 refine TO.fnx Tryz.enters100 (c_groups _) rfl Reads0 (fun b4 hx5 => ?_)
 refine TO.nil (TQ.then_normal (T.block ?_))
 refine T.front1 ?_
 refine T.front2 ?_
 refine T.range2 (fun k (A : Option Addr) (cap : Nat) => True) (fun k (A : Option Addr) (cap : Nat) => [own b3 #[.slice A k cap] 62, row 5 1 A k cap (bytesC ((vint (zig n)).take k))]) (fun (y : Empty) => False) (fun y => nomatch y) (fun _ => []) (none) (0) rfl Tryz.enters108 (c_groups1 (zig n) _ (by have := zig_lt (n := n) (by omega) (by omega); omega)) (fun _ _ h => h) Reads0 (fun _ => rfl) (trivial) (fun l0 b0 k A cap S1 w1 hk hx => ?_) (fun D A cap hx => ?_) (fun D y hy => ?_)
 ·have hvl := (vint_len (zig n)).2
  have hzl : zig n < 18446744073709551616 := by have := zig_lt (n := n) (by omega) (by omega); omega
  refine T.seq (T.region ?_)
  refine rdx (rd_assign (v := .int _ _) rfl) ?_
  refine TO.nil (TQ.then_normal (T.region ?_))
  refine rdx (rd_assign (v := .bool _) rfl) ?_
  refine TO.nil ?_
  refine TQ.begin_ ?_
  refine T.block (T.seq (T.seq (T.region ?_)))
  refine rdx (rd_move (v := .bool _) rfl) ?_
  refine rdx (rd_not rfl) ?_
  refine TO.nil (TQ.then_normal ?_)
  refine T.cond_ft rfl (fun h7 => ?_) (fun h7 => ?_)
  ·try simp only [nrm] at h7
   refine T.skip (TQ.then_normal (T.region ?_))
   refine rdx (rd_load (v := .slice _ _ _) Tryz.one62 rfl (Has.own 1 rfl) rfl) ?_
   refine rdx (rd_move (v := .int _ _) rfl) ?_
   refine TO.buildS (cs := [.int _ _]) Tryz.under62 Tryz.size5 Tryz.zero5 (Nat.le_of_ble_eq_true rfl) rfl (fun b12 => ?_)
   refine TO.front3 ?_
   refine TO.app Tryz.trow5 Tryz.under62 (.inl ⟨_, Tryz.under62⟩) rfl rfl (Src.own1 1 rfl rfl) rfl rfl (by omega) (fun A13 c14 hc15 => ?_)
   refine TO.row_eq (k' := k + 1) (cs' := bytesC ((vint (zig n)).take (k + 1))) rfl (vint_snoc hzl hk (by first | (rw [if_pos (by omega)]) | (rw [if_neg (by omega)]))) ?_
   refine TO.front3 ?_
   refine TO.store0 (cells' := #[.slice _ _ _]) Tryz.size62 rfl (v := .slice _ _ _) rfl rfl rfl (Nat.le_of_ble_eq_true rfl) rfl ?_
   refine TO.nil (TQ.block_normal ?_)
   refine TQ.rend (A13, c14) ?_ (fun _ _ h => h.sel (js := [3, 0, 1]) (by decide))
   ·exact trivial
  try simp only [nrm] at h7
  refine T.region ?_
  refine rdx (rd_move (v := .int _ _) rfl) ?_
  refine rdx (rd_or128 rfl rfl rfl (Nat.mod_lt _ (by omega))) ?_
  refine rdx (rd_assign (v := .int _ _) rfl) ?_
  refine TO.nil (TQ.then_normal (T.region ?_))
  refine rdx (rd_load (v := .slice _ _ _) Tryz.one62 rfl (Has.own 1 rfl) rfl) ?_
  refine rdx (rd_move (v := .int _ _) rfl) ?_
  refine TO.buildS (cs := [.int _ _]) Tryz.under62 Tryz.size5 Tryz.zero5 (Nat.le_of_ble_eq_true rfl) rfl (fun b8 => ?_)
  refine TO.front3 ?_
  refine TO.app Tryz.trow5 Tryz.under62 (.inl ⟨_, Tryz.under62⟩) rfl rfl (Src.own1 1 rfl rfl) rfl rfl (by omega) (fun A9 c10 hc11 => ?_)
  refine TO.row_eq (k' := k + 1) (cs' := bytesC ((vint (zig n)).take (k + 1))) rfl (vint_snoc hzl hk (by first | (rw [if_pos (by omega)]) | (rw [if_neg (by omega)]))) ?_
  refine TO.front3 ?_
  refine TO.store0 (cells' := #[.slice _ _ _]) Tryz.size62 rfl (v := .slice _ _ _) rfl rfl rfl (Nat.le_of_ble_eq_true rfl) rfl ?_
  refine TO.nil (TQ.block_normal ?_)
  refine TQ.rend (A9, c10) ?_ (fun _ _ h => h.sel (js := [3, 0, 1]) (by decide))
  ·exact trivial
 ·refine TQ.block_normal (TQ.then_normal (T.seq (T.region ?_)))
  refine rdx (rd_load (v := .slice _ _ _) Tryz.one62 rfl (Has.own 1 rfl) rfl) ?_
  refine rdx (rd_row_str Tryz.under62 Tryz.under5 Tryz.under9 rfl (Has.own 2 rfl)) ?_
  refine rdx (rd_assign (v := .string _) rfl) ?_
  refine rdx (rd_assign (v := .int _ _) rfl) ?_
  refine TO.nil (TQ.then_normal (T.ret ?_))
  refine TQ.valueM ?_ (res2 Tryz.results92 (Res.tmp (v := .string _) rfl) (Res.tmp (v := .int _ _) rfl)) _ (.inl rfl)
  rw [putInt, putErr, if_pos (by omega), if_pos (by omega), List.take_of_length_le (Nat.le_refl _)]
 exact hy.elim
end Go.Proofs
end
section
set_option linter.unusedVariables false
set_option linter.unusedSimpArgs false
set_option maxRecDepth 100000
set_option maxHeartbeats 800000
namespace Go.Proofs
open Go.TL
attribute [local irreducible] Go.TL.T Go.TL.TO Go.TL.TQ
theorem c_numbers (b : Nat) (t : Bytes) (A : Option Addr) (cap n : Nat) (l : List Int) (hn : n = l.length) (hl : l.length ≤ 1000) (ht : t.length ≤ 100000000000) : Ctr Tryz.prog 64 #[.pointer (some ⟨b, 0, none⟩), .slice A n cap] [slc eInt 1 A l] [bld 5 102 b t] (γ := Unit) (fun _ => True) (fun _ => .tuple #[]) (fun _ => [bld 5 102 b (t ++ puts l)]) := by
 subst hn
 refine Ctr.intro Tryz.func64 rfl Tryz.ntmps64 (Nat.le_of_ble_eq_true rfl) fun S0 w0 => ?_
 refine T.seq (T.region ?_)
 refine rdx (rd_move (v := .slice _ _ _) rfl) ?_
 refine rdx (rd_lensl Tryz.under110 rfl) ?_
 refine rdx (rd_move (v := .int _ _) rfl) ?_
 refine TO.nil (TQ.then_normal (T.block ?_))
 refine T.loop1 [0, 8, 9] (fun (k : Nat) => [(10, .int .i64 (k : Nat))]) (fun (k : Nat) => [bld 5 102 b (t ++ puts (l.take k))]) (fun (k : Nat) => k ≤ l.length) (fun (k : Nat) => l.length - k) (0) (Nat.zero_le _) (And.intro (rfl) (trivial)) (fun S w h => by simpa [puts] using h) fun k g0 hx0 => ?_
 have hpl := puts_length (l.take k)
 rw [List.length_take] at hpl
 refine T.seq (T.region ?_)
 refine rdx (rd_lss rfl rfl) ?_
 refine TO.nil (TQ.then_normal (T.seq ?_))
 refine T.cond_ft rfl (fun h1 => ?_) (fun h1 => ?_)
 ·try simp only [nrm] at h1
  refine T.exit (TQ.then_exit (TQ.then_exit (TQ.block_out ?_)))
  refine TQ.conv (fun _ _ h => by rwa [show l.take k = l from List.take_of_length_le (by omega)] at h) ?_
  refine TQ.done (()) (trivial) ?_ (fun _ _ h => h.sel (js := [0]) (by decide)) (res0 Tryz.results64) _ (.inr rfl)
  rfl
 try simp only [nrm] at h1
 refine T.skip (TQ.then_normal (T.seq (T.block (T.seq (T.region ?_)))))
 refine rdx (rd_ix Tryz.under110 Tryz.size3 rfl rfl (Has.arg 0 rfl) rfl (by omega) (by omega)) ?_
 refine rdx (rd_el (v := .int _ _) _ 0 Tryz.one3 rfl (Has.arg 0 rfl) rfl (by omega) (Nat.le_of_ble_eq_true rfl) rfl) ?_
 have hpi := putInt_length (l[k]'(by omega))
 refine rdx (rd_assign (v := .int _ _) rfl) ?_
 refine TO.nil (TQ.then_normal (T.seq (T.region ?_)))
 refine rdx (rd_move (v := .int _ _) rfl) ?_
 refine TO.fn Tryz.enters92 (c_wire_PutInt _) rfl Reads0 ?_
 refine rdx (rd_move (v := .tuple _) rfl) ?_
 refine rdx (rd_extract (v := .string _) (vs := _) rfl rfl) ?_
 refine rdx (rd_extract (v := .int _ _) (vs := _) rfl rfl) ?_
 refine rdx (rd_assign (v := .string _) rfl) ?_
 refine rdx (rd_assign (v := .int _ _) rfl) ?_
 refine TO.nil (TQ.then_normal (T.region ?_))
 refine rdx (rd_move (v := .pointer _) rfl) ?_
 refine rdx (rd_nilCheck rfl) ?_
 refine rdx (rd_fieldAddr Tryz.field102_0 rfl) ?_
 refine rdx (rd_move (v := .string _) rfl) ?_
 refine TO.hand Tryz.enters65 rfl (c_WriteString _ _ _ _ (by first | exact Tryz.lies102_100 | exact Tryz.lies100_100) (by first | omega | exact wishText_le _ | exact proxyText_le _ | exact puts3_le _ _ _ | (simp only [List.length_append, List.length_cons, List.length_nil, sha_len, leafOf_len, nodeOf_len, sealOf_len, List.length_take, List.length_drop]; omega) | (rw [keyB_len]; omega))) rfl rfl Reads0 (fun _ hx2 => ?_)
 refine TO.bld_eq (t ++ puts (l.take (k + 1))) (by rw [← take_snoc (by omega), puts_snoc, List.append_assoc]) ?_
 refine TO.nil (TQ.block_normal (TQ.then_normal (T.region ?_)))
 refine rdx (rd_add rfl rfl (w64 (by omega) (by omega))) ?_
 refine rdx (rd_move (v := .int _ _) rfl) ?_
 refine TO.nil ?_
 refine TQ.againk (k + 1) ?_ ?_ (And.intro (rfl) (trivial)) (And.intro (rfl) (And.intro (rfl) (And.intro (rfl) (trivial)))) (fun _ _ h => h)
 ·first | omega | (dsimp only; omega)
 ·first | omega | (dsimp only; omega)
theorem c_writer_wish (b : Nat) (t : Bytes) (w : Wish) (ht : t.length ≤ 100000000000) : Ctr Tryz.prog 54 #[.pointer (some ⟨b, 0, none⟩), wishV w] [] [bld 5 102 b t] (γ := Unit) (fun _ => True) (fun _ => .tuple #[]) (fun _ => [bld 5 102 b (t ++ wishText w)]) := by
 refine Ctr.intro Tryz.func54 rfl Tryz.ntmps54 (Nat.le_of_ble_eq_true rfl) fun S0 w0 => ?_
 refine T.seq (T.region ?_)
 refine TO.box (v := .agg #[.int _ _, .int _ _, .int _ _, .int _ _, .int _ _, .int _ _, .int _ _, .int _ _, .string _]) rfl (fun b1 => ?_)
 refine TO.nil (TQ.then_normal (T.region ?_))
 refine rdx (rd_move (v := .pointer _) rfl) ?_
 refine rdx (rd_fieldAddr Tryz.field30_0 rfl) ?_
 refine rdx (rd_load (v := .int _ _) Tryz.one3 rfl (Has.own 0 rfl) rfl) ?_
 refine rdx (rd_fieldAddr Tryz.field30_1 rfl) ?_
 refine rdx (rd_load (v := .int _ _) Tryz.one3 rfl (Has.own 0 rfl) rfl) ?_
 refine rdx (rd_fieldAddr Tryz.field30_2 rfl) ?_
 refine rdx (rd_fieldAddr Tryz.field27_0 rfl) ?_
 refine rdx (rd_load (v := .int _ _) Tryz.one3 rfl (Has.own 0 rfl) rfl) ?_
 refine rdx (rd_fieldAddr Tryz.field30_2 rfl) ?_
 refine rdx (rd_fieldAddr Tryz.field27_1 rfl) ?_
 refine rdx (rd_load (v := .int _ _) Tryz.one3 rfl (Has.own 0 rfl) rfl) ?_
 refine rdx (rd_fieldAddr Tryz.field30_3 rfl) ?_
 refine rdx (rd_load (v := .int _ _) Tryz.one3 rfl (Has.own 0 rfl) rfl) ?_
 refine rdx (rd_fieldAddr Tryz.field30_4 rfl) ?_
 refine rdx (rd_load (v := .int _ _) Tryz.one3 rfl (Has.own 0 rfl) rfl) ?_
 refine rdx (rd_fieldAddr Tryz.field30_5 rfl) ?_
 refine rdx (rd_fieldAddr Tryz.field28_0 rfl) ?_
 refine rdx (rd_load (v := .int _ _) Tryz.one3 rfl (Has.own 0 rfl) rfl) ?_
 refine rdx (rd_fieldAddr Tryz.field30_5 rfl) ?_
 refine rdx (rd_fieldAddr Tryz.field28_1 rfl) ?_
 refine rdx (rd_load (v := .int _ _) Tryz.one3 rfl (Has.own 0 rfl) rfl) ?_
 refine TO.buildS (cs := [.int _ _, .int _ _, .int _ _, .int _ _, .int _ _, .int _ _, .int _ _, .int _ _, .int _ _]) Tryz.under110 Tryz.size3 Tryz.zero3 (Nat.le_of_ble_eq_true rfl) rfl (fun b2 => ?_)
 refine TO.front2 ?_
 refine TO.hand Tryz.enters64 rfl (c_numbers _ _ _ _ _ [1, w.signer, w.holder, w.rlo, w.rhi, w.carrier, w.serial, w.slo, w.shi] (by first | rfl | simp) (by simp) (by first | omega | exact Nat.zero_le _)) rfl rfl (ReadsC (own_slc (e := eInt) [1, w.signer, w.holder, w.rlo, w.rhi, w.carrier, w.serial, w.slo, w.shi] rfl (fun _ => rfl) (Has.own 0 rfl) (by simp)) Reads0) (fun _ hx3 => ?_)
 refine TO.nil ?_
 refine TQ.done (()) (trivial) ?_ (fun _ _ h => h.sel (js := [0]) (by decide)) (res0 Tryz.results54) _ (.inr rfl)
 rfl
theorem c_writer_proxy (b : Nat) (t : Bytes) (p : Proxy) (ht : t.length ≤ 100000000000) : Ctr Tryz.prog 52 #[.pointer (some ⟨b, 0, none⟩), proxyV p] [] [bld 5 102 b t] (γ := Unit) (fun _ => True) (fun _ => .tuple #[]) (fun _ => [bld 5 102 b (t ++ proxyText p)]) := by
 refine Ctr.intro Tryz.func52 rfl Tryz.ntmps52 (Nat.le_of_ble_eq_true rfl) fun S0 w0 => ?_
 refine T.seq (T.region ?_)
 refine TO.box (v := .agg #[.int _ _, .int _ _, .int _ _, .int _ _, .int _ _, .int _ _, .string _]) rfl (fun b1 => ?_)
 refine TO.nil (TQ.then_normal (T.region ?_))
 refine rdx (rd_move (v := .pointer _) rfl) ?_
 refine rdx (rd_fieldAddr Tryz.field40_0 rfl) ?_
 refine rdx (rd_load (v := .int _ _) Tryz.one3 rfl (Has.own 0 rfl) rfl) ?_
 refine rdx (rd_fieldAddr Tryz.field40_1 rfl) ?_
 refine rdx (rd_load (v := .int _ _) Tryz.one3 rfl (Has.own 0 rfl) rfl) ?_
 refine rdx (rd_fieldAddr Tryz.field40_2 rfl) ?_
 refine rdx (rd_fieldAddr Tryz.field27_0 rfl) ?_
 refine rdx (rd_load (v := .int _ _) Tryz.one3 rfl (Has.own 0 rfl) rfl) ?_
 refine rdx (rd_fieldAddr Tryz.field40_2 rfl) ?_
 refine rdx (rd_fieldAddr Tryz.field27_1 rfl) ?_
 refine rdx (rd_load (v := .int _ _) Tryz.one3 rfl (Has.own 0 rfl) rfl) ?_
 refine rdx (rd_fieldAddr Tryz.field40_3 rfl) ?_
 refine rdx (rd_fieldAddr Tryz.field28_0 rfl) ?_
 refine rdx (rd_load (v := .int _ _) Tryz.one3 rfl (Has.own 0 rfl) rfl) ?_
 refine rdx (rd_fieldAddr Tryz.field40_3 rfl) ?_
 refine rdx (rd_fieldAddr Tryz.field28_1 rfl) ?_
 refine rdx (rd_load (v := .int _ _) Tryz.one3 rfl (Has.own 0 rfl) rfl) ?_
 refine TO.buildS (cs := [.int _ _, .int _ _, .int _ _, .int _ _, .int _ _, .int _ _, .int _ _]) Tryz.under110 Tryz.size3 Tryz.zero3 (Nat.le_of_ble_eq_true rfl) rfl (fun b2 => ?_)
 refine TO.front2 ?_
 refine TO.hand Tryz.enters64 rfl (c_numbers _ _ _ _ _ [2, p.frm, p.to, p.rlo, p.rhi, p.slo, p.shi] (by first | rfl | simp) (by simp) (by first | omega | exact Nat.zero_le _)) rfl rfl (ReadsC (own_slc (e := eInt) [2, p.frm, p.to, p.rlo, p.rhi, p.slo, p.shi] rfl (fun _ => rfl) (Has.own 0 rfl) (by simp)) Reads0) (fun _ hx3 => ?_)
 refine TO.nil ?_
 refine TQ.done (()) (trivial) ?_ (fun _ _ h => h.sel (js := [0]) (by decide)) (res0 Tryz.results52) _ (.inr rfl)
 rfl
end Go.Proofs
end
section
set_option linter.unusedVariables false
set_option linter.unusedSimpArgs false
set_option maxRecDepth 100000
set_option maxHeartbeats 800000
namespace Go.Proofs
open Go.TL
attribute [local irreducible] Go.TL.T Go.TL.TO Go.TL.TQ
theorem c_SignWish1 (b bw : Nat) (w : Wish) : Ctr Tryz.prog 59 #[.pointer (some ⟨b, 0, none⟩), .pointer (some ⟨bw, 0, none⟩)] [own bw (wishC w) 30] [bld 5 102 b []] (γ := Unit) (fun _ => True) (fun _ => .tuple #[]) (fun _ => [bld 5 102 b (wishText w)]) := by
 refine Ctr.intro Tryz.func59 rfl Tryz.ntmps59 (Nat.le_of_ble_eq_true rfl) fun S0 w0 => ?_
 refine T.region ?_
 refine rdx (rd_move (v := .pointer _) rfl) ?_
 refine rdx (rd_load_agg (cs := wishC w) Tryz.agg30 rfl (Has.arg 0 rfl) rfl rfl) ?_
 refine TO.hand Tryz.enters54 rfl (c_writer_wish _ _ _ (by first | omega | (simp only [List.length_nil]; omega) | exact Nat.zero_le _ | (simp only [List.length_append]; omega))) rfl rfl Reads0 (fun _ hx1 => ?_)
 refine TO.nil ?_
 refine TQ.done (()) (trivial) ?_ (fun _ _ h => h.sel (js := [0]) (by decide)) (res0 Tryz.results59) _ (.inr rfl)
 rfl
theorem c_Why3 (b bw : Nat) (w : Wish) : Ctr Tryz.prog 53 #[.pointer (some ⟨b, 0, none⟩), .pointer (some ⟨bw, 0, none⟩)] [own bw (wishC w) 30] [bld 5 102 b []] (γ := Unit) (fun _ => True) (fun _ => .tuple #[]) (fun _ => [bld 5 102 b (wishText w)]) := by
 refine Ctr.intro Tryz.func53 rfl Tryz.ntmps53 (Nat.le_of_ble_eq_true rfl) fun S0 w0 => ?_
 refine T.region ?_
 refine rdx (rd_move (v := .pointer _) rfl) ?_
 refine rdx (rd_load_agg (cs := wishC w) Tryz.agg30 rfl (Has.arg 0 rfl) rfl rfl) ?_
 refine TO.hand Tryz.enters54 rfl (c_writer_wish _ _ _ (by first | omega | (simp only [List.length_nil]; omega) | exact Nat.zero_le _ | (simp only [List.length_append]; omega))) rfl rfl Reads0 (fun _ hx1 => ?_)
 refine TO.nil ?_
 refine TQ.done (()) (trivial) ?_ (fun _ _ h => h.sel (js := [0]) (by decide)) (res0 Tryz.results53) _ (.inr rfl)
 rfl
theorem c_SignProxy1 (b bw : Nat) (p : Proxy) : Ctr Tryz.prog 61 #[.pointer (some ⟨b, 0, none⟩), .pointer (some ⟨bw, 0, none⟩)] [own bw (proxyC p) 40] [bld 5 102 b []] (γ := Unit) (fun _ => True) (fun _ => .tuple #[]) (fun _ => [bld 5 102 b (proxyText p)]) := by
 refine Ctr.intro Tryz.func61 rfl Tryz.ntmps61 (Nat.le_of_ble_eq_true rfl) fun S0 w0 => ?_
 refine T.region ?_
 refine rdx (rd_move (v := .pointer _) rfl) ?_
 refine rdx (rd_load_agg (cs := proxyC p) Tryz.agg40 rfl (Has.arg 0 rfl) rfl rfl) ?_
 refine TO.hand Tryz.enters52 rfl (c_writer_proxy _ _ _ (by first | omega | (simp only [List.length_nil]; omega) | exact Nat.zero_le _ | (simp only [List.length_append]; omega))) rfl rfl Reads0 (fun _ hx1 => ?_)
 refine TO.nil ?_
 refine TQ.done (()) (trivial) ?_ (fun _ _ h => h.sel (js := [0]) (by decide)) (res0 Tryz.results61) _ (.inr rfl)
 rfl
theorem c_Why2 (b bw : Nat) (p : Proxy) : Ctr Tryz.prog 51 #[.pointer (some ⟨b, 0, none⟩), .pointer (some ⟨bw, 0, none⟩)] [own bw (proxyC p) 40] [bld 5 102 b []] (γ := Unit) (fun _ => True) (fun _ => .tuple #[]) (fun _ => [bld 5 102 b (proxyText p)]) := by
 refine Ctr.intro Tryz.func51 rfl Tryz.ntmps51 (Nat.le_of_ble_eq_true rfl) fun S0 w0 => ?_
 refine T.region ?_
 refine rdx (rd_move (v := .pointer _) rfl) ?_
 refine rdx (rd_load_agg (cs := proxyC p) Tryz.agg40 rfl (Has.arg 0 rfl) rfl rfl) ?_
 refine TO.hand Tryz.enters52 rfl (c_writer_proxy _ _ _ (by first | omega | (simp only [List.length_nil]; omega) | exact Nat.zero_le _ | (simp only [List.length_append]; omega))) rfl rfl Reads0 (fun _ hx1 => ?_)
 refine TO.nil ?_
 refine TQ.done (()) (trivial) ?_ (fun _ _ h => h.sel (js := [0]) (by decide)) (res0 Tryz.results51) _ (.inr rfl)
 rfl
theorem c_Account1 (b b1 b2 : Nat) (n e : Int) : Ctr Tryz.prog 74 #[.pointer (some ⟨b, 0, none⟩), .pointer (some ⟨b1, 0, none⟩), .pointer (some ⟨b2, 0, none⟩)] [own b1 #[.int .i64 n] 3, own b2 #[.int .i64 e] 3] [bld 5 102 b []] (γ := Unit) (fun _ => True) (fun _ => .tuple #[]) (fun _ => [bld 5 102 b (puts [3, n, e])]) := by
 refine Ctr.intro Tryz.func74 rfl Tryz.ntmps74 (Nat.le_of_ble_eq_true rfl) fun S0 w0 => ?_
 refine T.region ?_
 refine rdx (rd_move (v := .pointer _) rfl) ?_
 refine rdx (rd_load (v := .int _ _) Tryz.one3 rfl (Has.arg 0 rfl) rfl) ?_
 refine rdx (rd_load (v := .int _ _) Tryz.one3 rfl (Has.arg 1 rfl) rfl) ?_
 refine TO.buildS (cs := [.int _ _, .int _ _, .int _ _]) Tryz.under110 Tryz.size3 Tryz.zero3 (Nat.le_of_ble_eq_true rfl) rfl (fun b1 => ?_)
 refine TO.front1 ?_
 refine TO.hand Tryz.enters64 rfl (c_numbers _ _ _ _ _ [3, n, e] (by first | rfl | simp) (by simp) (by first | omega | exact Nat.zero_le _)) rfl rfl (ReadsC (own_slc (e := eInt) [3, n, e] rfl (fun _ => rfl) (Has.own 0 rfl) (by simp)) Reads0) (fun _ hx2 => ?_)
 refine TO.nil ?_
 refine TQ.done (()) (trivial) ?_ (fun _ _ h => h.sel (js := [0]) (by decide)) (res0 Tryz.results74) _ (.inr rfl)
 rfl
theorem c_seal (key c : Bytes) (g : FuncId) (cap : List Value) (Gw : List Asn) (he : Enters Tryz.prog g) (hw : ∀ b, Ctr Tryz.prog g (.pointer (some ⟨b, 0, none⟩) :: cap).toArray Gw [bld 5 102 b []] (γ := Unit) (fun _ => True) (fun _ => .tuple #[]) (fun _ => [bld 5 102 b c])) (hc0 : c ≠ []) (hc : c.length ≤ 500000000000) (hk : key.length ≤ 100000000000) : Cv Tryz.prog 50 #[.string (str key), .func (.func g) #[] cap.toArray] (glob 0 roundC 162 :: Gw) (.string (str (sealOf key c))) := by
 refine Ctr.intro Tryz.func50 rfl Tryz.ntmps50 (Nat.le_of_ble_eq_true rfl) fun S0 w0 => ?_
 refine T.seq (T.region ?_)
 refine rdx (rd_assign (v := .string _) rfl) ?_
 refine TO.nil (TQ.then_normal (T.seq (T.region ?_)))
 refine TO.alloc Tryz.zero102 (fun b1 => ?_)
 refine TO.tobld (e := 5) ?_
 refine TO.nil (TQ.then_normal (T.seq (T.region ?_)))
 refine rdx (rd_move (v := .func _ _ _) rfl) ?_
 refine TO.hand he rfl (hw _) rfl rfl (fun X hX => Has.mem (List.mem_cons_of_mem _ hX)) (fun _ _ => ?_)
 refine TO.nil (TQ.then_normal (T.seq (T.region ?_)))
 refine rdx (rd_move (v := .string _) rfl) ?_
 refine rdx (rd_fieldAddr Tryz.field102_0 rfl) ?_
 refine TO.hand Tryz.enters66 rfl (c_String _ _ _ (hc0)) rfl rfl Reads0 (fun _ hx2 => ?_)
 refine TO.fn Tryz.enters88 (c_digest_Leaf _ (by first | assumption | (apply leafArg; assumption)) (by first | omega | assumption)) rfl (ReadsC (Has.arg 0 rfl) Reads0) ?_
 refine TO.fn Tryz.enters87 (c_digest_Node _ _ (leafOf_ne _) (by first | omega | assumption) (by rw [leafOf_len]; omega)) rfl (ReadsC (Has.arg 0 rfl) Reads0) ?_
 refine rdx (rd_assign (v := .string _) rfl) ?_
 refine TO.nil (TQ.then_normal (T.ret ?_))
 refine TQ.value ?_ (res1 Tryz.results50 (Res.tmp (v := .string _) rfl)) _ (.inl rfl)
 rfl
end Go.Proofs
end
section
set_option linter.unusedVariables false
set_option linter.unusedSimpArgs false
set_option maxRecDepth 100000
set_option maxHeartbeats 800000
namespace Go.Proofs
open Go.TL
attribute [local irreducible] Go.TL.T Go.TL.TO Go.TL.TQ
theorem c_wish_SignWish (k : Bytes) (w : Wish) (hk : k.length ≤ 1000000000) : Cv Tryz.prog 20 #[.string (str k), wishV w] [glob 0 roundC 162] (.tuple #[wishV (signW k w).1, .int .i64 (signW k w).2]) := by
 refine Ctr.intro Tryz.func20 rfl Tryz.ntmps20 (Nat.le_of_ble_eq_true rfl) fun S0 w0 => ?_
 refine T.seq (T.region ?_)
 refine TO.box (v := .agg #[.int _ _, .int _ _, .int _ _, .int _ _, .int _ _, .int _ _, .int _ _, .int _ _, .string _]) rfl (fun b1 => ?_)
 refine TO.alloc Tryz.zero30 (fun b2 => ?_)
 refine rdx (rd_assign (v := .int _ _) rfl) ?_
 refine TO.nil (TQ.then_normal (T.seq (T.seq (T.region ?_))))
 refine rdx (rd_move (v := .string _) rfl) ?_
 refine TO.fn Tryz.enters43 (c_wish_isKey _) rfl Reads0 ?_
 refine rdx (rd_not rfl) ?_
 refine rdx (rd_move (v := .bool _) rfl) ?_
 refine TO.decide (s := 9) rfl (fun h3 => ?_) (fun h3 => ?_)
 ·try simp only [nrm] at h3
  refine TO.guard_false (s := 9) (b' := true) rfl rfl nofun ?_
  refine TO.guard_false (s := 9) (b' := true) rfl rfl nofun ?_
  refine TO.guard_false (s := 9) (b' := true) rfl rfl nofun ?_
  refine rdx (rd_pick_true (v := .bool _) rfl rfl) ?_
  refine TO.nil (TQ.then_normal ?_)
  refine T.cond_true rfl ?_
  refine T.seq (T.region ?_)
  refine rdx (rd_build (cs := [.int _ _, .int _ _, .int _ _, .int _ _, .int _ _, .int _ _, .int _ _, .int _ _, .string _]) Tryz.places30 Tryz.zero30 rfl rfl) ?_
  refine TO.store0 (cells' := #[.int _ _, .int _ _, .int _ _, .int _ _, .int _ _, .int _ _, .int _ _, .int _ _, .string _]) Tryz.size30 rfl (v := .agg #[.int _ _, .int _ _, .int _ _, .int _ _, .int _ _, .int _ _, .int _ _, .int _ _, .string _]) rfl rfl rfl (Nat.le_of_ble_eq_true rfl) rfl ?_
  refine rdx (rd_assign (v := .int _ _) rfl) ?_
  refine TO.nil (TQ.then_normal (T.ret (TQ.then_ret ?_)))
  refine TQ.value ?_ (res2 Tryz.results20 (Res.cells (cs := #[.int _ _, .int _ _, .int _ _, .int _ _, .int _ _, .int _ _, .int _ _, .int _ _, .string _]) Tryz.agg30 rfl (Has.own 0 rfl) rfl rfl) (Res.tmp (v := .int _ _) rfl)) _ (.inl rfl)
  rw [signW, if_neg (by rintro ⟨e1, e2⟩; first | omega | simp_all)]; rfl
 try simp only [nrm] at h3
 refine TO.guard_true (s := 9) rfl rfl ?_
 refine rdx (rd_load_agg (cs := #[.int _ _, .int _ _, .int _ _, .int _ _, .int _ _, .int _ _, .int _ _, .int _ _, .string _]) Tryz.agg30 rfl (Has.own 1 rfl) rfl rfl) ?_
 refine TO.guard_true (s := 9) rfl rfl ?_
 refine TO.fn Tryz.enters45 (c_wish_isWish _) rfl Reads0 ?_
 refine TO.guard_true (s := 9) rfl rfl ?_
 refine rdx (rd_not rfl) ?_
 refine rdx (rd_pick_false (v := .bool _) rfl rfl) ?_
 refine TO.nil (TQ.then_normal ?_)
 refine T.cond rfl (fun h4 => ?_) (fun h4 => ?_)
 ·try simp only [nrm] at h4
  refine T.seq (T.region ?_)
  refine rdx (rd_build (cs := [.int _ _, .int _ _, .int _ _, .int _ _, .int _ _, .int _ _, .int _ _, .int _ _, .string _]) Tryz.places30 Tryz.zero30 rfl rfl) ?_
  refine TO.store0 (cells' := #[.int _ _, .int _ _, .int _ _, .int _ _, .int _ _, .int _ _, .int _ _, .int _ _, .string _]) Tryz.size30 rfl (v := .agg #[.int _ _, .int _ _, .int _ _, .int _ _, .int _ _, .int _ _, .int _ _, .int _ _, .string _]) rfl rfl rfl (Nat.le_of_ble_eq_true rfl) rfl ?_
  refine rdx (rd_assign (v := .int _ _) rfl) ?_
  refine TO.nil (TQ.then_normal (T.ret (TQ.then_ret ?_)))
  refine TQ.value ?_ (res2 Tryz.results20 (Res.cells (cs := #[.int _ _, .int _ _, .int _ _, .int _ _, .int _ _, .int _ _, .int _ _, .int _ _, .string _]) Tryz.agg30 rfl (Has.own 0 rfl) rfl rfl) (Res.tmp (v := .int _ _) rfl)) _ (.inl rfl)
  rw [signW, if_neg (by rintro ⟨e1, e2⟩; first | omega | simp_all)]; rfl
 try simp only [nrm] at h4
 refine T.skip (TQ.then_normal (T.seq (T.region ?_)))
 refine rdx (rd_move (v := .string _) rfl) ?_
 refine rdx (rd_clo (b := [_]) rfl) ?_
 refine TO.fn Tryz.enters50 (c_seal _ _ _ _ _ Tryz.enters59 (fun b => c_SignWish1 b _ w) (wishText_ne w) (Nat.le_trans (wishText_le w) (by decide)) (by omega)) rfl (ReadsC (Has.arg 0 rfl) (ReadsC (Has.own 1 rfl) Reads0)) ?_
 refine rdx (rd_fieldAddr Tryz.field30_6 rfl) ?_
 refine TO.front1 ?_
 refine TO.store0 (cells' := #[.int _ _, .int _ _, .int _ _, .int _ _, .int _ _, .int _ _, .int _ _, .int _ _, .string _]) Tryz.size9 rfl (v := .string _) rfl rfl rfl (Nat.le_of_ble_eq_true rfl) rfl ?_
 refine TO.nil (TQ.then_normal (T.seq (T.region ?_)))
 refine rdx (rd_load_agg (cs := #[.int _ _, .int _ _, .int _ _, .int _ _, .int _ _, .int _ _, .int _ _, .int _ _, .string _]) Tryz.agg30 rfl (Has.own 0 rfl) rfl rfl) ?_
 refine TO.front1 ?_
 refine TO.store0 (cells' := #[.int _ _, .int _ _, .int _ _, .int _ _, .int _ _, .int _ _, .int _ _, .int _ _, .string _]) Tryz.size30 rfl (v := .agg #[.int _ _, .int _ _, .int _ _, .int _ _, .int _ _, .int _ _, .int _ _, .int _ _, .string _]) rfl rfl rfl (Nat.le_of_ble_eq_true rfl) rfl ?_
 refine rdx (rd_assign (v := .int _ _) rfl) ?_
 refine TO.nil (TQ.then_normal (T.ret ?_))
 refine TQ.value ?_ (res2 Tryz.results20 (Res.cells (cs := #[.int _ _, .int _ _, .int _ _, .int _ _, .int _ _, .int _ _, .int _ _, .int _ _, .string _]) Tryz.agg30 rfl (Has.own 0 rfl) rfl rfl) (Res.tmp (v := .int _ _) rfl)) _ (.inl rfl)
 rw [signW, if_pos ⟨by omega, by simp_all⟩]; rfl
theorem c_wish_SignProxy (k : Bytes) (w : Proxy) (hk : k.length ≤ 1000000000) : Cv Tryz.prog 22 #[.string (str k), proxyV w] [glob 0 roundC 162] (.tuple #[proxyV (signP k w).1, .int .i64 (signP k w).2]) := by
 refine Ctr.intro Tryz.func22 rfl Tryz.ntmps22 (Nat.le_of_ble_eq_true rfl) fun S0 w0 => ?_
 refine T.seq (T.region ?_)
 refine TO.box (v := .agg #[.int _ _, .int _ _, .int _ _, .int _ _, .int _ _, .int _ _, .string _]) rfl (fun b1 => ?_)
 refine TO.alloc Tryz.zero40 (fun b2 => ?_)
 refine rdx (rd_assign (v := .int _ _) rfl) ?_
 refine TO.nil (TQ.then_normal (T.seq (T.seq (T.region ?_))))
 refine rdx (rd_move (v := .string _) rfl) ?_
 refine TO.fn Tryz.enters43 (c_wish_isKey _) rfl Reads0 ?_
 refine rdx (rd_not rfl) ?_
 refine rdx (rd_move (v := .bool _) rfl) ?_
 refine TO.decide (s := 9) rfl (fun h3 => ?_) (fun h3 => ?_)
 ·try simp only [nrm] at h3
  refine TO.guard_false (s := 9) (b' := true) rfl rfl nofun ?_
  refine TO.guard_false (s := 9) (b' := true) rfl rfl nofun ?_
  refine TO.guard_false (s := 9) (b' := true) rfl rfl nofun ?_
  refine rdx (rd_pick_true (v := .bool _) rfl rfl) ?_
  refine TO.nil (TQ.then_normal ?_)
  refine T.cond_true rfl ?_
  refine T.seq (T.region ?_)
  refine rdx (rd_build (cs := [.int _ _, .int _ _, .int _ _, .int _ _, .int _ _, .int _ _, .string _]) Tryz.places40 Tryz.zero40 rfl rfl) ?_
  refine TO.store0 (cells' := #[.int _ _, .int _ _, .int _ _, .int _ _, .int _ _, .int _ _, .string _]) Tryz.size40 rfl (v := .agg #[.int _ _, .int _ _, .int _ _, .int _ _, .int _ _, .int _ _, .string _]) rfl rfl rfl (Nat.le_of_ble_eq_true rfl) rfl ?_
  refine rdx (rd_assign (v := .int _ _) rfl) ?_
  refine TO.nil (TQ.then_normal (T.ret (TQ.then_ret ?_)))
  refine TQ.value ?_ (res2 Tryz.results22 (Res.cells (cs := #[.int _ _, .int _ _, .int _ _, .int _ _, .int _ _, .int _ _, .string _]) Tryz.agg40 rfl (Has.own 0 rfl) rfl rfl) (Res.tmp (v := .int _ _) rfl)) _ (.inl rfl)
  rw [signP, if_neg (by rintro ⟨e1, e2⟩; first | omega | simp_all)]; rfl
 try simp only [nrm] at h3
 refine TO.guard_true (s := 9) rfl rfl ?_
 refine rdx (rd_load_agg (cs := #[.int _ _, .int _ _, .int _ _, .int _ _, .int _ _, .int _ _, .string _]) Tryz.agg40 rfl (Has.own 1 rfl) rfl rfl) ?_
 refine TO.guard_true (s := 9) rfl rfl ?_
 refine TO.fn Tryz.enters60 (c_wish_isProxy _) rfl Reads0 ?_
 refine TO.guard_true (s := 9) rfl rfl ?_
 refine rdx (rd_not rfl) ?_
 refine rdx (rd_pick_false (v := .bool _) rfl rfl) ?_
 refine TO.nil (TQ.then_normal ?_)
 refine T.cond rfl (fun h4 => ?_) (fun h4 => ?_)
 ·try simp only [nrm] at h4
  refine T.seq (T.region ?_)
  refine rdx (rd_build (cs := [.int _ _, .int _ _, .int _ _, .int _ _, .int _ _, .int _ _, .string _]) Tryz.places40 Tryz.zero40 rfl rfl) ?_
  refine TO.store0 (cells' := #[.int _ _, .int _ _, .int _ _, .int _ _, .int _ _, .int _ _, .string _]) Tryz.size40 rfl (v := .agg #[.int _ _, .int _ _, .int _ _, .int _ _, .int _ _, .int _ _, .string _]) rfl rfl rfl (Nat.le_of_ble_eq_true rfl) rfl ?_
  refine rdx (rd_assign (v := .int _ _) rfl) ?_
  refine TO.nil (TQ.then_normal (T.ret (TQ.then_ret ?_)))
  refine TQ.value ?_ (res2 Tryz.results22 (Res.cells (cs := #[.int _ _, .int _ _, .int _ _, .int _ _, .int _ _, .int _ _, .string _]) Tryz.agg40 rfl (Has.own 0 rfl) rfl rfl) (Res.tmp (v := .int _ _) rfl)) _ (.inl rfl)
  rw [signP, if_neg (by rintro ⟨e1, e2⟩; first | omega | simp_all)]; rfl
 try simp only [nrm] at h4
 refine T.skip (TQ.then_normal (T.seq (T.region ?_)))
 refine rdx (rd_move (v := .string _) rfl) ?_
 refine rdx (rd_clo (b := [_]) rfl) ?_
 refine TO.fn Tryz.enters50 (c_seal _ _ _ _ _ Tryz.enters61 (fun b => c_SignProxy1 b _ w) (proxyText_ne w) (Nat.le_trans (proxyText_le w) (by decide)) (by omega)) rfl (ReadsC (Has.arg 0 rfl) (ReadsC (Has.own 1 rfl) Reads0)) ?_
 refine rdx (rd_fieldAddr Tryz.field40_4 rfl) ?_
 refine TO.front1 ?_
 refine TO.store0 (cells' := #[.int _ _, .int _ _, .int _ _, .int _ _, .int _ _, .int _ _, .string _]) Tryz.size9 rfl (v := .string _) rfl rfl rfl (Nat.le_of_ble_eq_true rfl) rfl ?_
 refine TO.nil (TQ.then_normal (T.seq (T.region ?_)))
 refine rdx (rd_load_agg (cs := #[.int _ _, .int _ _, .int _ _, .int _ _, .int _ _, .int _ _, .string _]) Tryz.agg40 rfl (Has.own 0 rfl) rfl rfl) ?_
 refine TO.front1 ?_
 refine TO.store0 (cells' := #[.int _ _, .int _ _, .int _ _, .int _ _, .int _ _, .int _ _, .string _]) Tryz.size40 rfl (v := .agg #[.int _ _, .int _ _, .int _ _, .int _ _, .int _ _, .int _ _, .string _]) rfl rfl rfl (Nat.le_of_ble_eq_true rfl) rfl ?_
 refine rdx (rd_assign (v := .int _ _) rfl) ?_
 refine TO.nil (TQ.then_normal (T.ret ?_))
 refine TQ.value ?_ (res2 Tryz.results22 (Res.cells (cs := #[.int _ _, .int _ _, .int _ _, .int _ _, .int _ _, .int _ _, .string _]) Tryz.agg40 rfl (Has.own 0 rfl) rfl rfl) (Res.tmp (v := .int _ _) rfl)) _ (.inl rfl)
 rw [signP, if_pos ⟨by omega, by simp_all⟩]; rfl
end Go.Proofs
end
section
set_option linter.unusedVariables false
set_option linter.unusedSimpArgs false
set_option maxRecDepth 100000
set_option maxHeartbeats 800000
namespace Go.Proofs
open Go.TL
attribute [local irreducible] Go.TL.T Go.TL.TO Go.TL.TQ
theorem c_law15_wished (t : Int) : Cv Tryz.prog 37 #[.int .i64 t] [glob 0 roundC 162] (wishV (sw t)) := by
 refine Ctr.intro Tryz.func37 rfl Tryz.ntmps37 (Nat.le_of_ble_eq_true rfl) fun S0 w0 => ?_
 refine T.seq (T.region ?_)
 refine TO.alloc Tryz.zero30 (fun b1 => ?_)
 refine TO.nil (TQ.then_normal (T.seq (T.region ?_)))
 refine TO.fn Tryz.enters19 (c_ref15_Key _) rfl Reads0 ?_
 refine rdx (rd_build (cs := [.int _ _, .int _ _]) Tryz.places27 Tryz.zero27 rfl rfl) ?_
 refine rdx (rd_move (v := .int _ _) rfl) ?_
 refine rdx (rd_build (cs := [.int _ _, .int _ _]) Tryz.places28 Tryz.zero28 rfl rfl) ?_
 refine rdx (rd_build (cs := [.int _ _, .int _ _, .int _ _, .int _ _, .int _ _, .int _ _, .int _ _, .int _ _, .string _]) Tryz.places30 Tryz.zero30 rfl rfl) ?_
 refine TO.fn Tryz.enters20 (c_wish_SignWish (keyB 2) (⟨2, 1, 1100, 1200, 3, 7, 150, t, []⟩) (by first | (rw [keyB_len]; omega) | omega | assumption)) rfl (ReadsC (Has.arg 0 rfl) Reads0) ?_
 refine rdx (rd_move (v := .tuple _) rfl) ?_
 refine rdx (rd_extract (v := .agg _) (vs := _) rfl rfl) ?_
 refine rdx (rd_extract (v := .int _ _) (vs := _) rfl rfl) ?_
 refine TO.alloc Tryz.zero30 (fun b2 => ?_)
 refine TO.store0 (cells' := #[.int _ _, .int _ _, .int _ _, .int _ _, .int _ _, .int _ _, .int _ _, .int _ _, .string _]) Tryz.size30 rfl (v := .agg #[.int _ _, .int _ _, .int _ _, .int _ _, .int _ _, .int _ _, .int _ _, .int _ _, .string _]) rfl rfl rfl (Nat.le_of_ble_eq_true rfl) rfl ?_
 refine rdx (rd_assign (v := .int _ _) rfl) ?_
 refine TO.nil (TQ.then_normal (T.seq (T.region ?_)))
 refine rdx (rd_load_agg (cs := #[.int _ _, .int _ _, .int _ _, .int _ _, .int _ _, .int _ _, .int _ _, .int _ _, .string _]) Tryz.agg30 rfl (Has.own 0 rfl) rfl rfl) ?_
 refine TO.front1 ?_
 refine TO.store0 (cells' := #[.int _ _, .int _ _, .int _ _, .int _ _, .int _ _, .int _ _, .int _ _, .int _ _, .string _]) Tryz.size30 rfl (v := .agg #[.int _ _, .int _ _, .int _ _, .int _ _, .int _ _, .int _ _, .int _ _, .int _ _, .string _]) rfl rfl rfl (Nat.le_of_ble_eq_true rfl) rfl ?_
 refine TO.nil (TQ.then_normal (T.ret ?_))
 refine TQ.value ?_ (res1 Tryz.results37 (Res.cells (cs := #[.int _ _, .int _ _, .int _ _, .int _ _, .int _ _, .int _ _, .int _ _, .int _ _, .string _]) Tryz.agg30 rfl (Has.own 0 rfl) rfl rfl)) _ (.inl rfl)
 rfl
theorem c_law15_granted (t : Int) : Cv Tryz.prog 38 #[.int .i64 t] [glob 0 roundC 162] (proxyV (sp t)) := by
 refine Ctr.intro Tryz.func38 rfl Tryz.ntmps38 (Nat.le_of_ble_eq_true rfl) fun S0 w0 => ?_
 refine T.seq (T.region ?_)
 refine TO.alloc Tryz.zero40 (fun b1 => ?_)
 refine TO.nil (TQ.then_normal (T.seq (T.region ?_)))
 refine TO.fn Tryz.enters19 (c_ref15_Key _) rfl Reads0 ?_
 refine rdx (rd_build (cs := [.int _ _, .int _ _]) Tryz.places27 Tryz.zero27 rfl rfl) ?_
 refine rdx (rd_move (v := .int _ _) rfl) ?_
 refine rdx (rd_build (cs := [.int _ _, .int _ _]) Tryz.places28 Tryz.zero28 rfl rfl) ?_
 refine rdx (rd_build (cs := [.int _ _, .int _ _, .int _ _, .int _ _, .int _ _, .int _ _, .string _]) Tryz.places40 Tryz.zero40 rfl rfl) ?_
 refine TO.fn Tryz.enters22 (c_wish_SignProxy (keyB 1) (⟨1, 2, 1000, 2000, 100, t, []⟩) (by first | (rw [keyB_len]; omega) | omega | assumption)) rfl (ReadsC (Has.arg 0 rfl) Reads0) ?_
 refine rdx (rd_move (v := .tuple _) rfl) ?_
 refine rdx (rd_extract (v := .agg _) (vs := _) rfl rfl) ?_
 refine rdx (rd_extract (v := .int _ _) (vs := _) rfl rfl) ?_
 refine TO.alloc Tryz.zero40 (fun b2 => ?_)
 refine TO.store0 (cells' := #[.int _ _, .int _ _, .int _ _, .int _ _, .int _ _, .int _ _, .string _]) Tryz.size40 rfl (v := .agg #[.int _ _, .int _ _, .int _ _, .int _ _, .int _ _, .int _ _, .string _]) rfl rfl rfl (Nat.le_of_ble_eq_true rfl) rfl ?_
 refine rdx (rd_assign (v := .int _ _) rfl) ?_
 refine TO.nil (TQ.then_normal (T.seq (T.region ?_)))
 refine rdx (rd_load_agg (cs := #[.int _ _, .int _ _, .int _ _, .int _ _, .int _ _, .int _ _, .string _]) Tryz.agg40 rfl (Has.own 0 rfl) rfl rfl) ?_
 refine TO.front1 ?_
 refine TO.store0 (cells' := #[.int _ _, .int _ _, .int _ _, .int _ _, .int _ _, .int _ _, .string _]) Tryz.size40 rfl (v := .agg #[.int _ _, .int _ _, .int _ _, .int _ _, .int _ _, .int _ _, .string _]) rfl rfl rfl (Nat.le_of_ble_eq_true rfl) rfl ?_
 refine TO.nil (TQ.then_normal (T.ret ?_))
 refine TQ.value ?_ (res1 Tryz.results38 (Res.cells (cs := #[.int _ _, .int _ _, .int _ _, .int _ _, .int _ _, .int _ _, .string _]) Tryz.agg40 rfl (Has.own 0 rfl) rfl rfl)) _ (.inl rfl)
 rfl
end Go.Proofs
end
section
set_option linter.unusedVariables false
set_option linter.unusedSimpArgs false
set_option maxRecDepth 100000
set_option maxHeartbeats 800000
namespace Go.Proofs
open Go.TL
attribute [local irreducible] Go.TL.T Go.TL.TO Go.TL.TQ
theorem Tryz.enters74 : Enters Tryz.prog 74 := fun args w => by kernel_rfl
theorem Tryz.enters75 : Enters Tryz.prog 75 := fun args w => by kernel_rfl
end Go.Proofs
end
section
set_option linter.unusedVariables false
set_option linter.unusedSimpArgs false
set_option maxRecDepth 100000
set_option maxHeartbeats 800000
namespace Go.Proofs
open Go.TL
attribute [local irreducible] Go.TL.T Go.TL.TO Go.TL.TQ
theorem Tryz.enters42 : Enters Tryz.prog 42 := fun args w => by kernel_rfl
theorem Tryz.enters44 : Enters Tryz.prog 44 := fun args w => by kernel_rfl
theorem Tryz.enters48 : Enters Tryz.prog 48 := fun args w => by kernel_rfl
theorem Tryz.enters49 : Enters Tryz.prog 49 := fun args w => by kernel_rfl
theorem Tryz.enters51 : Enters Tryz.prog 51 := fun args w => by kernel_rfl
theorem Tryz.enters53 : Enters Tryz.prog 53 := fun args w => by kernel_rfl
theorem Tryz.enters85 : Enters Tryz.prog 85 := fun args w => by kernel_rfl
end Go.Proofs
end
section
set_option linter.unusedVariables false
set_option linter.unusedSimpArgs false
set_option maxRecDepth 100000
set_option maxHeartbeats 800000
namespace Go.Proofs
open Go.TL
attribute [local irreducible] Go.TL.T Go.TL.TO Go.TL.TQ
theorem Tryz.enters86 : Enters Tryz.prog 86 := fun args w => by kernel_rfl
end Go.Proofs
end
section
set_option linter.unusedVariables false
set_option linter.unusedSimpArgs false
set_option maxRecDepth 100000
set_option maxHeartbeats 800000
namespace Go.Proofs
open Go.TL
attribute [local irreducible] Go.TL.T Go.TL.TO Go.TL.TQ
theorem c_wish_scope (w : Wish) (A : Option Addr) (cap n : Nat) (l : List Proxy) (hn : n = l.length) (hl : l.length ≤ 4) : Cv Tryz.prog 49 #[wishV w, .slice A n cap] [slc proxyL 7 A l] (.tuple #[.int .i64 (scopeR w l).1, .bool (scopeR w l).2]) := by
 subst hn
 refine Ctr.intro Tryz.func49 rfl Tryz.ntmps49 (Nat.le_of_ble_eq_true rfl) fun S0 w0 => ?_
 refine T.seq (T.region ?_)
 refine TO.box (v := .agg #[.int _ _, .int _ _, .int _ _, .int _ _, .int _ _, .int _ _, .int _ _, .int _ _, .string _]) rfl (fun b1 => ?_)
 refine rdx (rd_assign (v := .int _ _) rfl) ?_
 refine rdx (rd_assign (v := .bool _) rfl) ?_
 refine TO.nil (TQ.then_normal (T.seq (T.seq (T.region ?_))))
 refine rdx (rd_move (v := .slice _ _ _) rfl) ?_
 refine rdx (rd_lensl Tryz.under31 rfl) ?_
 refine rdx (rd_move (v := .int _ _) rfl) ?_
 refine TO.nil (TQ.then_normal (T.block ?_))
 refine T.loop1 [1, 2, 8, 9] (fun (k : Nat) => [(10, .int .i64 (k : Nat))]) (fun (k : Nat) => []) (fun (k : Nat) => k ≤ l.length ∧ okTo (scopeP l) k) (fun (k : Nat) => l.length - k) (0) (⟨Nat.zero_le _, okTo.zero _⟩) (And.intro (rfl) (trivial)) (fun _ _ h => h) fun k g0 hx0 => ?_
 obtain ⟨hk, hk0⟩ := hx0
 refine T.seq (T.region ?_)
 refine rdx (rd_lss rfl rfl) ?_
 refine TO.nil (TQ.then_normal (T.seq ?_))
 refine T.cond_ft rfl (fun h2 => ?_) (fun h2 => ?_)
 ·try simp only [nrm] at h2
  refine T.exit (TQ.then_exit (TQ.then_exit (TQ.block_out (TQ.then_normal (T.seq ?_)))))
  refine T.drawq Tryz.mixes 18 [(32, 0), (33, 1), (34, 2), (35, 3), (36, 4), (37, 5), (38, 6), (39, 7), (40, 8), (41, 9), (42, 10), (43, 11), (44, 12), (45, 13), (46, 14), (47, 15), (48, 16), (4, 17)] [0, 1, 3, 7, 15, 31, 15, 79, 15, 15, 527, 1551, 3855, 7951, 16383, 32767, 65535, 32767, 262143] (by kernel_rfl) ?_
  refine DQ.rd rfl rfl (fun _ => rd_move (v := .slice _ _ _) rfl) ?_
  refine DQ.rd rfl rfl (fun _ => rd_lensl Tryz.under31 rfl) ?_
  refine DQ.rd rfl rfl (fun _ => rd_gtr rfl rfl) ?_
  refine DQ.rd rfl rfl (fun _ => rd_move (v := .bool _) rfl) ?_
  refine DQ.decide 3 rfl (fun h6 => ?_) (fun h6 => ?_)
  ·try simp only [nrm] at h6
   refine DQ.rdg rfl rfl (fun _ => rfl) (fun _ => rd_fieldAddr Tryz.field30_2 rfl) ?_
   refine DQ.rdg rfl rfl (fun _ => rfl) (fun _ => rd_load_agg (cs := #[.int _ _, .int _ _]) Tryz.agg27 rfl (Has.own 0 rfl) rfl rfl) ?_
   refine DQ.rdg rfl rfl (fun _ => rfl) (fun _ => rd_fieldAddr Tryz.field30_5 rfl) ?_
   refine DQ.rdg rfl rfl (fun _ => rfl) (fun _ => rd_load_agg (cs := #[.int _ _, .int _ _]) Tryz.agg28 rfl (Has.own 0 rfl) rfl rfl) ?_
   refine DQ.rdg rfl rfl (fun _ => rfl) (fun _ => rd_move (v := .slice _ _ _) rfl) ?_
   refine DQ.rdg rfl rfl (fun _ => rfl) (fun _ => rd_move (v := .slice _ _ _) rfl) ?_
   refine DQ.rdg rfl rfl (fun _ => rfl) (fun _ => rd_lensl Tryz.under31 rfl) ?_
   refine DQ.rdg rfl rfl (fun _ => rfl) (fun _ => rd_sub rfl rfl (w64 (by omega) (by omega))) ?_
   refine DQ.rdg rfl rfl (fun _ => rfl) (fun _ => rd_ix (k := (l.length - 1)) Tryz.under31 Tryz.size40 rfl rfl (Has.arg 0 rfl) (by omega) (by omega) (by omega)) ?_
   refine DQ.rdg rfl rfl (fun _ => rfl) (fun _ => rd_ela (cs := [.int _ _, .int _ _, .int _ _, .int _ _, .int _ _, .int _ _, .string _]) (l.length - 1) 0 Tryz.agg40 rfl (Has.arg 0 rfl) rfl (by omega) (Nat.le_of_ble_eq_true rfl) rfl rfl rfl) ?_
   refine DQ.fng rfl rfl (fun _ => rfl) Tryz.enters86 (c_wish_isIn _ _ _ _ _) (fun _ => rfl) Reads0 ?_
   refine DQ.rdg rfl rfl (fun _ => rfl) (fun _ => rd_not rfl) ?_
   refine DQ.rd rfl rfl (fun _ => rd_pick_true (v := .bool _) rfl rfl) ?_
   refine DQ.rd rfl rfl (fun _ => rd_assign (v := .int _ _) rfl) ?_
   refine DQ.done rfl ?_
   refine rdx (rd_assign (v := .bool _) rfl) ?_
   refine TO.nil (TQ.then_normal (T.ret ?_))
   refine TQ.value ?_ (res2 Tryz.results49 (Res.tmp (v := .int _ _) rfl) (Res.tmp (v := .bool _) rfl)) _ (.inl rfl)
   rw [scopeR_none (fun i hi => hk0 i (by omega))]; congr 2; rw [lastScope, decide_eq_true (by omega), getD_get _ (by omega)]; simp_all
  try simp only [nrm] at h6
  refine DQ.off (b' := false) rfl rfl (fun _ => rfl) nofun ?_
  refine DQ.off (b' := false) rfl rfl (fun _ => rfl) nofun ?_
  refine DQ.off (b' := false) rfl rfl (fun _ => rfl) nofun ?_
  refine DQ.off (b' := false) rfl rfl (fun _ => rfl) nofun ?_
  refine DQ.off (b' := false) rfl rfl (fun _ => rfl) nofun ?_
  refine DQ.off (b' := false) rfl rfl (fun _ => rfl) nofun ?_
  refine DQ.off (b' := false) rfl rfl (fun _ => rfl) nofun ?_
  refine DQ.off (b' := false) rfl rfl (fun _ => rfl) nofun ?_
  refine DQ.off (b' := false) rfl rfl (fun _ => rfl) nofun ?_
  refine DQ.off (b' := false) rfl rfl (fun _ => rfl) nofun ?_
  refine DQ.off (b' := false) rfl rfl (fun _ => rfl) nofun ?_
  refine DQ.off (b' := false) rfl rfl (fun _ => rfl) nofun ?_
  refine DQ.rd rfl rfl (fun _ => rd_pick_false (v := .bool _) rfl rfl) ?_
  refine DQ.rd rfl rfl (fun _ => rd_assign (v := .int _ _) rfl) ?_
  refine DQ.done rfl ?_
  refine rdx (rd_assign (v := .bool _) rfl) ?_
  refine TO.nil (TQ.then_normal (T.ret ?_))
  refine TQ.value ?_ (res2 Tryz.results49 (Res.tmp (v := .int _ _) rfl) (Res.tmp (v := .bool _) rfl)) _ (.inl rfl)
  rw [scopeR_none (fun i hi => hk0 i (by omega))]; congr 2; rw [lastScope, decide_eq_false (by omega)]; rfl
 try simp only [nrm] at h2
 refine T.skip (TQ.then_normal (T.seq (T.block (T.seq (T.region ?_)))))
 refine rdx (rd_move (v := .int _ _) rfl) ?_
 refine rdx (rd_ix Tryz.under31 Tryz.size40 rfl rfl (Has.arg 0 rfl) rfl (by omega) (by omega)) ?_
 refine rdx (rd_ela (cs := [.int _ _, .int _ _, .int _ _, .int _ _, .int _ _, .int _ _, .string _]) _ 0 Tryz.agg40 rfl (Has.arg 0 rfl) rfl (by omega) (Nat.le_of_ble_eq_true rfl) rfl rfl rfl) ?_
 refine TO.alloc Tryz.zero40 (fun b3 => ?_)
 refine rdx (rd_assign (v := .int _ _) rfl) ?_
 refine TO.store0 (cells' := #[.int _ _, .int _ _, .int _ _, .int _ _, .int _ _, .int _ _, .string _]) Tryz.size40 rfl (v := .agg #[.int _ _, .int _ _, .int _ _, .int _ _, .int _ _, .int _ _, .string _]) rfl rfl rfl (Nat.le_of_ble_eq_true rfl) rfl ?_
 refine TO.nil (TQ.then_normal (T.seq ?_))
 refine T.drawq Tryz.mixes 12 [(15, 0), (16, 1), (17, 2), (18, 3), (19, 4), (20, 5), (21, 6), (22, 7), (23, 8), (24, 9), (25, 10), (26, 11)] [0, 1, 3, 7, 15, 7, 39, 7, 7, 263, 903, 1927, 4095, 8191, 16383] (by kernel_rfl) ?_
 refine DQ.rd rfl rfl (fun _ => rd_move (v := .int _ _) rfl) ?_
 refine DQ.rd rfl rfl (fun _ => rd_gtr rfl rfl) ?_
 refine DQ.rd rfl rfl (fun _ => rd_move (v := .bool _) rfl) ?_
 refine DQ.decide_ft 2 rfl (fun h4 => ?_) (fun h4 => ?_)
 ·try simp only [nrm] at h4
  refine DQ.off (b' := false) rfl rfl (fun _ => rfl) nofun ?_
  refine DQ.off (b' := false) rfl rfl (fun _ => rfl) nofun ?_
  refine DQ.off (b' := false) rfl rfl (fun _ => rfl) nofun ?_
  refine DQ.off (b' := false) rfl rfl (fun _ => rfl) nofun ?_
  refine DQ.off (b' := false) rfl rfl (fun _ => rfl) nofun ?_
  refine DQ.off (b' := false) rfl rfl (fun _ => rfl) nofun ?_
  refine DQ.off (b' := false) rfl rfl (fun _ => rfl) nofun ?_
  refine DQ.off (b' := false) rfl rfl (fun _ => rfl) nofun ?_
  refine DQ.off (b' := false) rfl rfl (fun _ => rfl) nofun ?_
  refine DQ.done rfl ?_
  refine TO.guard_false (s := 17) (b' := false) rfl rfl nofun ?_
  refine TO.guard_false (s := 17) (b' := false) rfl rfl nofun ?_
  refine rdx (rd_pick_false (v := .bool _) rfl rfl) ?_
  refine TO.nil (TQ.then_normal ?_)
  refine T.cond_false rfl ?_
  refine T.skip (TQ.block_normal (TQ.then_normal (T.region ?_)))
  refine rdx (rd_add rfl rfl (w64 (by omega) (by omega))) ?_
  refine rdx (rd_move (v := .int _ _) rfl) ?_
  refine TO.nil ?_
  refine TQ.againk (k + 1) ?_ ?_ (And.intro (rfl) (trivial)) (And.intro (rfl) (And.intro (rfl) (And.intro (rfl) (And.intro (rfl) (trivial))))) (fun _ _ h => h.sel (js := [1]) (by decide))
  ·exact ⟨by first | omega | (dsimp only; omega), hk0.next (by rw [scopeP]; first | (rw [decide_eq_false (by omega)]; rfl) | (rw [decide_eq_true (by omega), getD_get _ (by omega), getD_get _ (by omega)]; simp_all))⟩
  ·first | omega | (dsimp only; omega)
 try simp only [nrm] at h4
 refine DQ.rdg rfl rfl (fun _ => rfl) (fun _ => rd_fieldAddr Tryz.field40_2 rfl) ?_
 refine DQ.rdg rfl rfl (fun _ => rfl) (fun _ => rd_load_agg (cs := #[.int _ _, .int _ _]) Tryz.agg27 rfl (Has.own 0 rfl) rfl rfl) ?_
 refine DQ.rdg rfl rfl (fun _ => rfl) (fun _ => rd_fieldAddr Tryz.field40_3 rfl) ?_
 refine DQ.rdg rfl rfl (fun _ => rfl) (fun _ => rd_load_agg (cs := #[.int _ _, .int _ _]) Tryz.agg28 rfl (Has.own 0 rfl) rfl rfl) ?_
 refine DQ.rdg rfl rfl (fun _ => rfl) (fun _ => rd_move (v := .slice _ _ _) rfl) ?_
 refine DQ.rdg rfl rfl (fun _ => rfl) (fun _ => rd_move (v := .int _ _) rfl) ?_
 refine DQ.rdg rfl rfl (fun _ => rfl) (fun _ => rd_sub rfl rfl (w64 (by omega) (by omega))) ?_
 refine DQ.rdg rfl rfl (fun _ => rfl) (fun _ => rd_ix (k := (k - 1)) Tryz.under31 Tryz.size40 rfl rfl (Has.arg 0 rfl) (by omega) (by omega) (by omega)) ?_
 refine DQ.rdg rfl rfl (fun _ => rfl) (fun _ => rd_ela (cs := [.int _ _, .int _ _, .int _ _, .int _ _, .int _ _, .int _ _, .string _]) (k - 1) 0 Tryz.agg40 rfl (Has.arg 0 rfl) rfl (by omega) (Nat.le_of_ble_eq_true rfl) rfl rfl rfl) ?_
 refine DQ.done rfl ?_
 refine TO.guard_true (s := 17) rfl rfl ?_
 refine TO.fn Tryz.enters86 (c_wish_isIn _ _ _ _ _) rfl Reads0 ?_
 refine TO.guard_true (s := 17) rfl rfl ?_
 refine rdx (rd_not rfl) ?_
 refine rdx (rd_pick_true (v := .bool _) rfl rfl) ?_
 refine TO.nil (TQ.then_normal ?_)
 refine T.cond_ft rfl (fun h5 => ?_) (fun h5 => ?_)
 ·try simp only [nrm] at h5
  refine T.skip (TQ.block_normal (TQ.then_normal (T.region ?_)))
  refine rdx (rd_add rfl rfl (w64 (by omega) (by omega))) ?_
  refine rdx (rd_move (v := .int _ _) rfl) ?_
  refine TO.nil ?_
  refine TQ.againk (k + 1) ?_ ?_ (And.intro (rfl) (trivial)) (And.intro (rfl) (And.intro (rfl) (And.intro (rfl) (And.intro (rfl) (trivial))))) (fun _ _ h => h.sel (js := [1]) (by decide))
  ·exact ⟨by first | omega | (dsimp only; omega), hk0.next (by rw [scopeP]; first | (rw [decide_eq_false (by omega)]; rfl) | (rw [decide_eq_true (by omega), getD_get _ (by omega), getD_get _ (by omega)]; simp_all))⟩
  ·first | omega | (dsimp only; omega)
 try simp only [nrm] at h5
 refine T.seq (T.region ?_)
 refine rdx (rd_move (v := .int _ _) rfl) ?_
 refine rdx (rd_assign (v := .int _ _) rfl) ?_
 refine rdx (rd_assign (v := .bool _) rfl) ?_
 refine TO.nil (TQ.then_normal (T.ret (TQ.block_ret (TQ.then_ret (TQ.then_ret (TQ.block_ret (TQ.then_ret ?_)))))))
 refine TQ.value ?_ (res2 Tryz.results49 (Res.tmp (v := .int _ _) rfl) (Res.tmp (v := .bool _) rfl)) _ (.inl rfl)
 rw [scopeR_some hk0 (by rw [scopeP, decide_eq_true (by omega), getD_get _ (by omega), getD_get _ (by omega)]; simp_all) (by omega)]
theorem c_persons (h : Int) (A : Option Addr) (n cap : Nat) : Ctr Tryz.prog 48 #[.int .i64 h, .slice A n cap] [] [] (γ := Nat × Nat) (fun x => True) (fun x => .func (.func 85) #[] #[.pointer (some ⟨x.1, 0, none⟩), .pointer (some ⟨x.2, 0, none⟩)]) (fun x => [own x.1 #[.int .i64 h] 3, own x.2 #[.slice A n cap] 31]) := by
 refine Ctr.intro Tryz.func48 rfl Tryz.ntmps48 (Nat.le_of_ble_eq_true rfl) fun S0 w0 => ?_
 refine T.seq (T.region ?_)
 refine TO.box (v := .int _ _) rfl (fun b1 => ?_)
 refine TO.box (v := .slice _ _ _) rfl (fun b2 => ?_)
 refine rdx (rd_assign (v := .nilFunc) rfl) ?_
 refine TO.nil (TQ.then_normal (T.seq (T.region ?_)))
 refine rdx (rd_clo (b := [_, _]) rfl) ?_
 refine rdx (rd_assign (v := .func _ _ _) rfl) ?_
 refine TO.nil (TQ.then_normal (T.ret ?_))
 refine TQ.done ((b1, b2)) (trivial) ?_ (fun _ _ h => h.sel (js := [1, 0]) (by decide)) (res1 Tryz.results48 (Res.tmp (v := .func _ _ _) rfl)) _ (.inl rfl)
 rfl
theorem c_persons1 (b1 b2 : Nat) (h : Int) (A : Option Addr) (cap : Nat) (l : List Proxy) (hl : l.length ≤ 1000) : ICtr Tryz.prog 85 [.pointer (some ⟨b1, 0, none⟩), .pointer (some ⟨b2, 0, none⟩)] [own b1 #[.int .i64 h] 3, own b2 #[.slice A l.length cap] 31, slc proxyL 7 A l] [] (l.length + 1) (perEl h l) := by
 intro lp G J Js hY
 refine Ctr.intro Tryz.func85 rfl Tryz.ntmps85 (Nat.le_of_ble_eq_true rfl) fun S0 w0 => ?_
 refine T.seq (T.region ?_)
 refine rdx (rd_load (v := .int _ _) Tryz.one3 rfl (Has.arg 0 rfl) rfl) ?_
 refine rdx (rd_assign (v := .int _ _) rfl) ?_
 refine TO.nil (TQ.then_normal (T.seq (T.seq (T.region ?_))))
 refine rdx (rd_load (v := .slice _ _ _) Tryz.one31 rfl (Has.arg 1 rfl) rfl) ?_
 refine rdx (rd_lensl Tryz.under31 rfl) ?_
 refine rdx (rd_move (v := .int _ _) rfl) ?_
 refine TO.nil (TQ.then_normal (T.block ?_))
 refine T.loop1 [0, 8, 9] (fun (k : Nat) => [(4, .int .i64 (whoAt h l k)), (10, .int .i64 (k : Nat))]) (fun (k : Nat) => [J k]) (fun (k : Nat) => k ≤ l.length) (fun (k : Nat) => l.length - k) (0) (Nat.zero_le _) (And.intro (rfl) (And.intro (rfl) (trivial))) (fun _ _ h => h) fun k g0 hx0 => ?_
 refine T.seq (T.region ?_)
 refine rdx (rd_lss rfl rfl) ?_
 refine TO.nil (TQ.then_normal (T.seq ?_))
 refine T.cond_ft rfl (fun h1 => ?_) (fun h1 => ?_)
 ·try simp only [nrm] at h1
  refine T.exit (TQ.then_exit (TQ.then_exit (TQ.block_out (TQ.then_normal (T.region ?_)))))
  refine rdx (rd_move (v := .func _ _ _) rfl) ?_
  refine rdx (rd_move (v := .int _ _) rfl) ?_
  refine TO.yield2 rfl (hY k (by omega)) (perEl_end (by omega)).symm (fun X hX => Has.mem (List.mem_append_right _ hX)) ?_ ?_
  ·refine TO.nil ?_
   refine TQ.done (false) (trivial) ?_ (fun _ _ h => h.sel (js := [0]) (by decide)) (res0 Tryz.results85) _ (.inr rfl)
   rfl
  refine TO.nil ?_
  refine TQ.done (true) (trivial) ?_ (fun _ _ h => by rw [show l.length + 1 = k + 1 by omega]; exact h.sel (js := [0]) (by decide)) (res0 Tryz.results85) _ (.inr rfl)
  rfl
 try simp only [nrm] at h1
 refine T.skip (TQ.then_normal (T.seq (T.block (T.seq (T.region ?_)))))
 refine rdx (rd_move (v := .int _ _) rfl) ?_
 refine rdx (rd_ix Tryz.under31 Tryz.size40 rfl rfl (Has.arg 2 rfl) rfl (by omega) (by omega)) ?_
 refine rdx (rd_ela (cs := [.int _ _, .int _ _, .int _ _, .int _ _, .int _ _, .int _ _, .string _]) _ 0 Tryz.agg40 rfl (Has.arg 2 rfl) rfl (by omega) (Nat.le_of_ble_eq_true rfl) rfl rfl rfl) ?_
 refine TO.alloc Tryz.zero40 (fun b2 => ?_)
 refine rdx (rd_assign (v := .int _ _) rfl) ?_
 refine TO.store0 (cells' := #[.int _ _, .int _ _, .int _ _, .int _ _, .int _ _, .int _ _, .string _]) Tryz.size40 rfl (v := .agg #[.int _ _, .int _ _, .int _ _, .int _ _, .int _ _, .int _ _, .string _]) rfl rfl rfl (Nat.le_of_ble_eq_true rfl) rfl ?_
 refine TO.nil (TQ.then_normal (T.seq (T.seq (T.region ?_))))
 refine rdx (rd_move (v := .func _ _ _) rfl) ?_
 refine rdx (rd_move (v := .int _ _) rfl) ?_
 refine rdx (rd_move (v := .int _ _) rfl) ?_
 refine TO.front1 ?_
 refine TO.yield2 rfl (hY k (by omega)) (perEl_lt (by omega)).symm (fun X hX => Has.mem (List.mem_append_right _ hX)) ?_ ?_
 ·refine rdx (rd_not rfl) ?_
  refine TO.nil (TQ.then_normal ?_)
  refine T.cond_true rfl ?_
  refine T.ret (TQ.then_ret (TQ.block_ret (TQ.then_ret (TQ.then_ret (TQ.block_ret (TQ.then_ret ?_))))))
  refine TQ.done (false) (trivial) ?_ (fun _ _ h => h.sel (js := [0]) (by decide)) (res0 Tryz.results85) _ (.inl rfl)
  rfl
 refine rdx (rd_not rfl) ?_
 refine TO.nil (TQ.then_normal ?_)
 refine T.cond_false rfl ?_
 refine T.skip (TQ.then_normal (T.region ?_))
 refine rdx (rd_fieldAddr Tryz.field40_1 rfl) ?_
 refine rdx (rd_load (v := .int _ _) Tryz.one3 rfl (Has.own 1 rfl) rfl) ?_
 refine rdx (rd_assign (v := .int _ _) rfl) ?_
 refine TO.nil (TQ.block_normal (TQ.then_normal (T.region ?_)))
 refine rdx (rd_add rfl rfl (w64 (by omega) (by omega))) ?_
 refine rdx (rd_move (v := .int _ _) rfl) ?_
 refine TO.nil ?_
 refine TQ.againk (k + 1) ?_ ?_ (And.intro (congrArg (Value.int .i64) (whoAt_succ (by omega)).symm) (And.intro (rfl) (trivial))) (And.intro (rfl) (And.intro (rfl) (And.intro (rfl) (trivial)))) (fun _ _ h => h.sel (js := [0]) (by decide))
 ·first | omega | (dsimp only; omega)
 ·first | omega | (dsimp only; omega)
end Go.Proofs
end
section
set_option linter.unusedVariables false
set_option linter.unusedSimpArgs false
set_option maxRecDepth 100000
set_option maxHeartbeats 800000
namespace Go.Proofs
open Go.TL
attribute [local irreducible] Go.TL.T Go.TL.TO Go.TL.TQ
theorem c_wish_Why (A : Option Addr) (cap n : Nat) (ks : List Bytes) (hn : n = ks.length) (w : Wish) (B : Option Addr) (capb m : Nat) (l : List Proxy) (hm : m = l.length) (nu t : Int) (hksl : ks.length ≤ 4611686018427387904) (hll : l.length ≤ 4611686018427387904) : Cv Tryz.prog 13 #[.slice A n cap, wishV w, .slice B m capb, .int .i64 nu, .int .i64 t] [glob 0 roundC 162, slc eStr 1 A ks, slc proxyL 7 B l] (.tuple #[.int .i64 (whyOf ks w l nu t).1, .int .i64 (whyOf ks w l nu t).2]) := by
 subst hn hm
 refine Ctr.introM Tryz.func13 rfl Tryz.ntmps13 (Nat.le_of_ble_eq_true rfl) fun S0 w0 => ?_
 refine T.seq (T.region ?_)
 refine TO.box (v := .agg #[.int _ _, .int _ _, .int _ _, .int _ _, .int _ _, .int _ _, .int _ _, .int _ _, .string _]) rfl (fun b1 => ?_)
 refine TO.box (v := .slice _ _ _) rfl (fun b2 => ?_)
 refine TO.alloc Tryz.zero3 (fun b3 => ?_)
 refine TO.alloc Tryz.zero3 (fun b4 => ?_)
 refine TO.nil (TQ.then_normal (T.seq (T.region ?_)))
 refine rdx (rd_assign (v := .func _ _ _) rfl) ?_
 refine TO.nil (TQ.then_normal (T.seq (T.seq (T.region ?_))))
 refine rdx (rd_move (v := .slice _ _ _) rfl) ?_
 refine rdx (rd_lensl Tryz.under32 rfl) ?_
 refine rdx (rd_gtr rfl rfl) ?_
 refine rdx (rd_move (v := .bool _) rfl) ?_
 refine TO.decide (s := 23) rfl (fun h5 => ?_) (fun h5 => ?_)
 ·try simp only [nrm] at h5
  refine TO.guard_false (s := 23) (b' := true) rfl rfl nofun ?_
  refine TO.guard_false (s := 23) (b' := true) rfl rfl nofun ?_
  refine TO.guard_false (s := 23) (b' := true) rfl rfl nofun ?_
  refine rdx (rd_pick_true (v := .bool _) rfl rfl) ?_
  refine rdx (rd_move (v := .bool _) rfl) ?_
  refine TO.guard_false (s := 28) (b' := true) rfl rfl nofun ?_
  refine TO.guard_false (s := 28) (b' := true) rfl rfl nofun ?_
  refine TO.guard_false (s := 28) (b' := true) rfl rfl nofun ?_
  refine rdx (rd_pick_true (v := .bool _) rfl rfl) ?_
  refine rdx (rd_move (v := .bool _) rfl) ?_
  refine TO.guard_false (s := 33) (b' := true) rfl rfl nofun ?_
  refine TO.guard_false (s := 33) (b' := true) rfl rfl nofun ?_
  refine TO.guard_false (s := 33) (b' := true) rfl rfl nofun ?_
  refine rdx (rd_pick_true (v := .bool _) rfl rfl) ?_
  refine TO.nil (TQ.then_normal ?_)
  refine T.cond_true rfl ?_
  refine T.seq (T.region ?_)
  refine TO.front1 ?_
  refine TO.store0 (cells' := #[.int _ _]) Tryz.size3 rfl (v := .int _ _) rfl rfl rfl (Nat.le_of_ble_eq_true rfl) rfl ?_
  refine TO.front1 ?_
  refine TO.store0 (cells' := #[.int _ _]) Tryz.size3 rfl (v := .int _ _) rfl rfl rfl (Nat.le_of_ble_eq_true rfl) rfl ?_
  refine TO.nil (TQ.then_normal (T.ret (TQ.then_ret ?_)))
  refine TQ.valueN ?_ (res2 Tryz.results13 (Res.cell (v := .int _ _) Tryz.one3 rfl (Has.own 1 rfl) rfl) (Res.cell (v := .int _ _) Tryz.one3 rfl (Has.own 0 rfl) rfl)) _ (.inl rfl)
  exact tup2 (by rw [whyOf, if_pos (.inl (by omega))])
 try simp only [nrm] at h5
 refine TO.guard_true (s := 23) rfl rfl ?_
 refine rdx (rd_move (v := .slice _ _ _) rfl) ?_
 refine TO.guard_true (s := 23) rfl rfl ?_
 refine rdx (rd_move (v := .func _ _ _) rfl) ?_
 refine TO.guard_true (s := 23) rfl rfl ?_
 refine TO.fn Tryz.enters44 (c_ContainsFuncS _ _ _ ks (by first | rfl | simp | omega) _ (fun x => !(x.length == 32)) Tryz.enters42 (fun x => c_Why1 x) (by first | omega | simp)) rfl (ReadsC (Has.arg 1 rfl) Reads0) ?_
 refine rdx (rd_pick_false (v := .bool _) rfl rfl) ?_
 refine rdx (rd_move (v := .bool _) rfl) ?_
 refine TO.decide (s := 28) rfl (fun h6 => ?_) (fun h6 => ?_)
 ·try simp only [nrm] at h6
  refine TO.guard_false (s := 28) (b' := true) rfl rfl nofun ?_
  refine TO.guard_false (s := 28) (b' := true) rfl rfl nofun ?_
  refine TO.guard_false (s := 28) (b' := true) rfl rfl nofun ?_
  refine rdx (rd_pick_true (v := .bool _) rfl rfl) ?_
  refine rdx (rd_move (v := .bool _) rfl) ?_
  refine TO.guard_false (s := 33) (b' := true) rfl rfl nofun ?_
  refine TO.guard_false (s := 33) (b' := true) rfl rfl nofun ?_
  refine TO.guard_false (s := 33) (b' := true) rfl rfl nofun ?_
  refine rdx (rd_pick_true (v := .bool _) rfl rfl) ?_
  refine TO.nil (TQ.then_normal ?_)
  refine T.cond_true rfl ?_
  refine T.seq (T.region ?_)
  refine TO.front1 ?_
  refine TO.store0 (cells' := #[.int _ _]) Tryz.size3 rfl (v := .int _ _) rfl rfl rfl (Nat.le_of_ble_eq_true rfl) rfl ?_
  refine TO.front1 ?_
  refine TO.store0 (cells' := #[.int _ _]) Tryz.size3 rfl (v := .int _ _) rfl rfl rfl (Nat.le_of_ble_eq_true rfl) rfl ?_
  refine TO.nil (TQ.then_normal (T.ret (TQ.then_ret ?_)))
  refine TQ.valueN ?_ (res2 Tryz.results13 (Res.cell (v := .int _ _) Tryz.one3 rfl (Has.own 1 rfl) rfl) (Res.cell (v := .int _ _) Tryz.one3 rfl (Has.own 0 rfl) rfl)) _ (.inl rfl)
  exact tup2 (by rw [whyOf, if_pos (.inr (.inr (.inr (fun e => absurd (ixInt_neg.2 e) (Int.not_lt.2 h6)))))])
 try simp only [nrm] at h6
 refine TO.guard_true (s := 28) rfl rfl ?_
 refine rdx (rd_load_agg (cs := #[.int _ _, .int _ _, .int _ _, .int _ _, .int _ _, .int _ _, .int _ _, .int _ _, .string _]) Tryz.agg30 rfl (Has.own 3 rfl) rfl rfl) ?_
 refine TO.guard_true (s := 28) rfl rfl ?_
 refine TO.fn Tryz.enters45 (c_wish_isWish _) rfl Reads0 ?_
 refine TO.guard_true (s := 28) rfl rfl ?_
 refine rdx (rd_not rfl) ?_
 refine rdx (rd_pick_false (v := .bool _) rfl rfl) ?_
 refine rdx (rd_move (v := .bool _) rfl) ?_
 refine TO.decide (s := 33) rfl (fun h7 => ?_) (fun h7 => ?_)
 ·try simp only [nrm] at h7
  refine TO.guard_false (s := 33) (b' := true) rfl rfl nofun ?_
  refine TO.guard_false (s := 33) (b' := true) rfl rfl nofun ?_
  refine TO.guard_false (s := 33) (b' := true) rfl rfl nofun ?_
  refine rdx (rd_pick_true (v := .bool _) rfl rfl) ?_
  refine TO.nil (TQ.then_normal ?_)
  refine T.cond_true rfl ?_
  refine T.seq (T.region ?_)
  refine TO.front1 ?_
  refine TO.store0 (cells' := #[.int _ _]) Tryz.size3 rfl (v := .int _ _) rfl rfl rfl (Nat.le_of_ble_eq_true rfl) rfl ?_
  refine TO.front1 ?_
  refine TO.store0 (cells' := #[.int _ _]) Tryz.size3 rfl (v := .int _ _) rfl rfl rfl (Nat.le_of_ble_eq_true rfl) rfl ?_
  refine TO.nil (TQ.then_normal (T.ret (TQ.then_ret ?_)))
  refine TQ.valueN ?_ (res2 Tryz.results13 (Res.cell (v := .int _ _) Tryz.one3 rfl (Has.own 1 rfl) rfl) (Res.cell (v := .int _ _) Tryz.one3 rfl (Has.own 0 rfl) rfl)) _ (.inl rfl)
  exact tup2 (by rw [whyOf, if_pos (.inr (.inl (by simp_all)))])
 try simp only [nrm] at h7
 refine TO.guard_true (s := 33) rfl rfl ?_
 refine rdx (rd_load (v := .slice _ _ _) Tryz.one31 rfl (Has.own 2 rfl) rfl) ?_
 refine TO.guard_true (s := 33) rfl rfl ?_
 refine rdx (rd_lensl Tryz.under31 rfl) ?_
 refine TO.guard_true (s := 33) rfl rfl ?_
 refine rdx (rd_gtr rfl rfl) ?_
 refine rdx (rd_pick_false (v := .bool _) rfl rfl) ?_
 refine TO.nil (TQ.then_normal ?_)
 refine T.cond rfl (fun h8 => ?_) (fun h8 => ?_)
 ·try simp only [nrm] at h8
  refine T.seq (T.region ?_)
  refine TO.front1 ?_
  refine TO.store0 (cells' := #[.int _ _]) Tryz.size3 rfl (v := .int _ _) rfl rfl rfl (Nat.le_of_ble_eq_true rfl) rfl ?_
  refine TO.front1 ?_
  refine TO.store0 (cells' := #[.int _ _]) Tryz.size3 rfl (v := .int _ _) rfl rfl rfl (Nat.le_of_ble_eq_true rfl) rfl ?_
  refine TO.nil (TQ.then_normal (T.ret (TQ.then_ret ?_)))
  refine TQ.valueN ?_ (res2 Tryz.results13 (Res.cell (v := .int _ _) Tryz.one3 rfl (Has.own 1 rfl) rfl) (Res.cell (v := .int _ _) Tryz.one3 rfl (Has.own 0 rfl) rfl)) _ (.inl rfl)
  exact tup2 (by rw [whyOf, if_pos (.inr (.inr (.inl (by omega))))])
 try simp only [nrm] at h8
 refine T.skip (TQ.then_normal (T.seq (T.seq (T.region ?_))))
 refine rdx (rd_load (v := .slice _ _ _) Tryz.one31 rfl (Has.own 2 rfl) rfl) ?_
 have ek : firstIx (keyP ks) ks.length = none := ixInt_neg.1 h6
 have e0 : ¬ (64 < ks.length ∨ wishOk w = false ∨ 4 < l.length ∨ firstIx (keyP ks) ks.length ≠ none) := by rintro (h' | h' | h' | h') <;> first | omega | (simp_all; done) | exact h' ek
 have hwb := wishOk_bounds (w := w) (by simp_all)
 refine TO.fn Tryz.enters46 (c_badProxy _ _ _ l (by first | rfl | simp | omega) (by first | omega | assumption)) rfl (ReadsC (Has.arg 2 rfl) Reads0) ?_
 refine rdx (rd_assign (v := .int _ _) rfl) ?_
 refine TO.nil (TQ.then_normal (T.seq (T.region ?_)))
 refine rdx (rd_move (v := .int _ _) rfl) ?_
 refine rdx (rd_geq rfl rfl) ?_
 refine TO.nil (TQ.then_normal ?_)
 refine T.cond rfl (fun h9 => ?_) (fun h9 => ?_)
 ·try simp only [nrm] at h9
  refine T.seq (T.region ?_)
  refine rdx (rd_move (v := .int _ _) rfl) ?_
  refine TO.front1 ?_
  refine TO.store0 (cells' := #[.int _ _]) Tryz.size3 rfl (v := .int _ _) rfl rfl rfl (Nat.le_of_ble_eq_true rfl) rfl ?_
  refine TO.front1 ?_
  refine TO.store0 (cells' := #[.int _ _]) Tryz.size3 rfl (v := .int _ _) rfl rfl rfl (Nat.le_of_ble_eq_true rfl) rfl ?_
  refine TO.nil (TQ.then_normal (T.ret (TQ.then_ret ?_)))
  refine TQ.valueN ?_ (res2 Tryz.results13 (Res.cell (v := .int _ _) Tryz.one3 rfl (Has.own 1 rfl) rfl) (Res.cell (v := .int _ _) Tryz.one3 rfl (Has.own 0 rfl) rfl)) _ (.inl rfl)
  exact tup2 (by rw [whyOf, if_neg e0, oneOr_ix h9])
 try simp only [nrm] at h9
 refine T.skip (TQ.then_normal (T.seq (T.seq (T.region ?_))))
 refine rdx (rd_move (v := .int _ _) rfl) ?_
 have e1 : firstIx (formP l) l.length = none := ixInt_neg.1 h9
 refine rdx (rd_fieldAddr Tryz.field30_5 rfl) ?_
 refine rdx (rd_fieldAddr Tryz.field28_0 rfl) ?_
 refine rdx (rd_load (v := .int _ _) Tryz.one3 rfl (Has.own 3 rfl) rfl) ?_
 refine rdx (rd_fieldAddr Tryz.field30_5 rfl) ?_
 refine rdx (rd_fieldAddr Tryz.field28_1 rfl) ?_
 refine rdx (rd_load (v := .int _ _) Tryz.one3 rfl (Has.own 3 rfl) rfl) ?_
 refine rdx (rd_sub rfl rfl (w64 (by omega) (by omega))) ?_
 refine TO.fn Tryz.enters47 (c_wish_isWithin _ _ _) rfl Reads0 ?_
 refine rdx (rd_not rfl) ?_
 refine TO.nil (TQ.then_normal ?_)
 refine T.cond rfl (fun h10 => ?_) (fun h10 => ?_)
 ·try simp only [nrm] at h10
  refine T.seq (T.region ?_)
  refine TO.front1 ?_
  refine TO.store0 (cells' := #[.int _ _]) Tryz.size3 rfl (v := .int _ _) rfl rfl rfl (Nat.le_of_ble_eq_true rfl) rfl ?_
  refine TO.front1 ?_
  refine TO.store0 (cells' := #[.int _ _]) Tryz.size3 rfl (v := .int _ _) rfl rfl rfl (Nat.le_of_ble_eq_true rfl) rfl ?_
  refine TO.nil (TQ.then_normal (T.ret (TQ.then_ret ?_)))
  refine TQ.valueN ?_ (res2 Tryz.results13 (Res.cell (v := .int _ _) Tryz.one3 rfl (Has.own 1 rfl) rfl) (Res.cell (v := .int _ _) Tryz.one3 rfl (Has.own 0 rfl) rfl)) _ (.inl rfl)
  exact tup2 (by rw [whyOf, if_neg e0, e1, oneOr_none, if_pos (by have hq := h10; simp only [within, Bool.and_eq_false_iff, decide_eq_false_iff_not] at hq; omega)])
 try simp only [nrm] at h10
 refine T.skip (TQ.then_normal (T.seq (T.seq (T.region ?_))))
 refine rdx (rd_move (v := .int _ _) rfl) ?_
 have ht0 := h10
 simp only [within, Bool.and_eq_true, decide_eq_true_eq] at ht0
 refine rdx (rd_fieldAddr Tryz.field30_2 rfl) ?_
 refine rdx (rd_fieldAddr Tryz.field27_0 rfl) ?_
 refine rdx (rd_load (v := .int _ _) Tryz.one3 rfl (Has.own 3 rfl) rfl) ?_
 refine rdx (rd_fieldAddr Tryz.field30_2 rfl) ?_
 refine rdx (rd_fieldAddr Tryz.field27_1 rfl) ?_
 refine rdx (rd_load (v := .int _ _) Tryz.one3 rfl (Has.own 3 rfl) rfl) ?_
 refine rdx (rd_sub rfl rfl (w64 (by omega) (by omega))) ?_
 refine TO.fn Tryz.enters47 (c_wish_isWithin _ _ _) rfl Reads0 ?_
 refine rdx (rd_not rfl) ?_
 refine TO.nil (TQ.then_normal ?_)
 refine T.cond rfl (fun h11 => ?_) (fun h11 => ?_)
 ·try simp only [nrm] at h11
  refine T.seq (T.region ?_)
  refine TO.front1 ?_
  refine TO.store0 (cells' := #[.int _ _]) Tryz.size3 rfl (v := .int _ _) rfl rfl rfl (Nat.le_of_ble_eq_true rfl) rfl ?_
  refine TO.front1 ?_
  refine TO.store0 (cells' := #[.int _ _]) Tryz.size3 rfl (v := .int _ _) rfl rfl rfl (Nat.le_of_ble_eq_true rfl) rfl ?_
  refine TO.nil (TQ.then_normal (T.ret (TQ.then_ret ?_)))
  refine TQ.valueN ?_ (res2 Tryz.results13 (Res.cell (v := .int _ _) Tryz.one3 rfl (Has.own 1 rfl) rfl) (Res.cell (v := .int _ _) Tryz.one3 rfl (Has.own 0 rfl) rfl)) _ (.inl rfl)
  exact tup2 (by rw [whyOf, if_neg e0, e1, oneOr_none, if_neg (show ¬ (t < w.slo ∨ w.shi ≤ t) by omega), if_pos (by have hq := h11; simp only [within, Bool.and_eq_false_iff, decide_eq_false_iff_not] at hq; omega)])
 try simp only [nrm] at h11
 refine T.skip (TQ.then_normal (T.seq (T.seq (T.region ?_))))
 refine rdx (rd_fieldAddr Tryz.field30_1 rfl) ?_
 have hn0 := h11
 simp only [within, Bool.and_eq_true, decide_eq_true_eq] at hn0
 refine rdx (rd_load (v := .int _ _) Tryz.one3 rfl (Has.own 3 rfl) rfl) ?_
 refine rdx (rd_load (v := .slice _ _ _) Tryz.one31 rfl (Has.own 2 rfl) rfl) ?_
 refine TO.fnx Tryz.enters48 (c_persons _ _ _ _) rfl Reads0 (fun ⟨b112, b213⟩ hx14 => ?_)
 refine TO.nil (TQ.then_normal (T.block ?_))
 refine T.front4 ?_
 refine T.front5 ?_
 refine T.front4 ?_
 refine T.front5 ?_
 refine T.range1 (fun k (u : Unit) => okTo (chainP w.holder l) (min k l.length) ∧ (l.length < k → w.signer = whoAt w.holder l l.length)) (fun k (u : Unit) => [own b3 #[.int .i64 0] 3, own b4 #[.int .i64 0] 3, own b1 (wishC w) 30, own b2 #[.slice B l.length capb] 31]) (fun (y : Int) => StopC w l y) (fun _ => .ret) (fun (y : Int) => [own b3 #[.int .i64 4] 3, own b4 #[.int .i64 y] 3, own b1 (wishC w) 30, own b2 #[.slice B l.length capb] 31]) (()) rfl Tryz.enters85 (c_persons1 _ _ w.holder _ _ l (by omega)) (fun _ _ h => h) (ReadsC (Has.own 0 rfl) (ReadsC (Has.own 1 rfl) (ReadsC (Has.arg 2 rfl) Reads0))) (fun _ => rfl) (⟨by rw [Nat.zero_min]; exact okTo.zero _, fun h => absurd h (Nat.not_lt_zero _)⟩) (fun l0 b0 k u S1 w1 hk hx => ?_) (fun D u hx => ?_) (fun D y hy => ?_)
 ·obtain ⟨hc1, hc2⟩ := hx
  rcases Nat.lt_or_ge k l.length with hk1 | hk1
  ·rw [perEl_lt hk1]
   refine T.seq (T.region ?_)
   refine rdx (rd_assign (v := .int _ _) rfl) ?_
   refine TO.nil (TQ.then_normal (T.region ?_))
   refine rdx (rd_assign (v := .int _ _) rfl) ?_
   refine TO.nil ?_
   refine TQ.begin_ ?_
   refine T.block (T.seq (T.region ?_))
   refine rdx (rd_move (v := .int _ _) rfl) ?_
   refine rdx (rd_geq_true rfl rfl (by omega)) ?_
   refine rdx (rd_move (v := .bool _) rfl) ?_
   refine TO.guard_true (s := 71) rfl rfl ?_
   refine rdx (rd_load (v := .slice _ _ _) Tryz.one31 rfl (Has.own 4 rfl) rfl) ?_
   refine TO.guard_true (s := 71) rfl rfl ?_
   refine rdx (rd_move (v := .int _ _) rfl) ?_
   refine TO.guard_true (s := 71) rfl rfl ?_
   refine rdx (rd_ix (k := k) Tryz.under31 Tryz.size40 rfl rfl (Has.arg 2 rfl) rfl (by omega) (by omega)) ?_
   refine TO.guard_true (s := 71) rfl rfl ?_
   refine rdx (rd_ixf Tryz.field40_0 rfl (Has.arg 2 rfl) (by omega)) ?_
   refine TO.guard_true (s := 71) rfl rfl ?_
   refine rdx (rd_el (v := .int _ _) k 0 Tryz.one3 rfl (Has.arg 2 rfl) rfl (by omega) (Nat.le_of_ble_eq_true rfl) rfl) ?_
   refine TO.guard_true (s := 71) rfl rfl ?_
   refine rdx (rd_move (v := .int _ _) rfl) ?_
   refine TO.guard_true (s := 71) rfl rfl ?_
   refine rdx (rd_neq rfl rfl) ?_
   refine rdx (rd_pick_true (v := .bool _) rfl rfl) ?_
   refine rdx (rd_move (v := .bool _) rfl) ?_
   refine TO.decide_ft (s := 80) rfl (fun h17 => ?_) (fun h17 => ?_)
   ·try simp only [nrm] at h17
    refine TO.guard_true (s := 80) rfl rfl ?_
    refine rdx (rd_move (v := .int _ _) rfl) ?_
    refine TO.guard_true (s := 80) rfl rfl ?_
    refine rdx (rd_lss_false rfl rfl (by omega)) ?_
    refine TO.guard_true (s := 80) rfl rfl ?_
    refine rdx (rd_move (v := .bool _) rfl) ?_
    refine TO.guard_false (s := 83) (b' := false) rfl rfl nofun ?_
    refine TO.guard_false (s := 83) (b' := false) rfl rfl nofun ?_
    refine TO.guard_false (s := 83) (b' := false) rfl rfl nofun ?_
    refine TO.guard_false (s := 83) (b' := false) rfl rfl nofun ?_
    refine TO.guard_true (s := 80) rfl rfl ?_
    refine rdx (rd_pick_false (v := .bool _) rfl rfl) ?_
    refine rdx (rd_pick_false (v := .bool _) rfl rfl) ?_
    refine TO.nil (TQ.then_normal ?_)
    refine T.cond_false rfl ?_
    refine T.skip (TQ.block_normal ?_)
    refine TQ.rend (()) ?_ (fun _ _ h => h)
    ·try dsimp only
     first | exact ⟨chain_next1 hc1 hk1 (by rw [chainP, getD_get _ hk1]; simp_all), fun h => by omega⟩ | exact ⟨chain_next2 hc1 (by omega), fun _ => by rw [show l.length = k by omega]; simp_all⟩
   try simp only [nrm] at h17
   refine TO.guard_false (s := 80) (b' := true) rfl rfl nofun ?_
   refine TO.guard_false (s := 80) (b' := true) rfl rfl nofun ?_
   refine TO.guard_false (s := 80) (b' := true) rfl rfl nofun ?_
   refine TO.guard_off (s := 83) rfl rfl ?_
   refine TO.guard_off (s := 83) rfl rfl ?_
   refine TO.guard_off (s := 83) rfl rfl ?_
   refine TO.guard_off (s := 83) rfl rfl ?_
   refine TO.guard_false (s := 80) (b' := true) rfl rfl nofun ?_
   refine rdx (rd_pick_true (v := .bool _) rfl rfl) ?_
   refine TO.nil (TQ.then_normal ?_)
   refine T.cond_true rfl ?_
   refine T.seq (T.region ?_)
   refine rdx (rd_move (v := .int _ _) rfl) ?_
   refine TO.front1 ?_
   refine TO.store0 (cells' := #[.int _ _]) Tryz.size3 rfl (v := .int _ _) rfl rfl rfl (Nat.le_of_ble_eq_true rfl) rfl ?_
   refine TO.front2 ?_
   refine TO.store0 (cells' := #[.int _ _]) Tryz.size3 rfl (v := .int _ _) rfl rfl rfl (Nat.le_of_ble_eq_true rfl) rfl ?_
   refine TO.nil (TQ.then_normal (T.ret (TQ.block_ret ?_)))
   refine TQ.rleave (.inl ⟨rfl, rfl⟩) ((k : Int)) ?_ rfl (fun _ _ h => h.sel (js := [2, 1, 0, 3, 4]) (by decide))
   ·try dsimp only
    first | exact .inl ⟨k, hk1, by rwa [Nat.min_eq_left (by omega)] at hc1, by rw [chainP, getD_get _ hk1]; simp_all, rfl⟩ | exact .inr ⟨by rwa [Nat.min_eq_right (by omega)] at hc1, by rw [show l.length = k by omega]; simp_all, rfl⟩
  ·rw [perEl_end (show k = l.length by omega)]
   refine T.seq (T.region ?_)
   refine rdx (rd_assign (v := .int _ _) rfl) ?_
   refine TO.nil (TQ.then_normal (T.region ?_))
   refine rdx (rd_assign (v := .int _ _) rfl) ?_
   refine TO.nil ?_
   refine TQ.begin_ ?_
   refine T.block (T.seq (T.region ?_))
   refine rdx (rd_move (v := .int _ _) rfl) ?_
   refine rdx (rd_geq_false rfl rfl (by omega)) ?_
   refine rdx (rd_move (v := .bool _) rfl) ?_
   refine TO.guard_false (s := 71) (b' := false) rfl rfl nofun ?_
   refine TO.guard_false (s := 71) (b' := false) rfl rfl nofun ?_
   refine TO.guard_false (s := 71) (b' := false) rfl rfl nofun ?_
   refine TO.guard_false (s := 71) (b' := false) rfl rfl nofun ?_
   refine TO.guard_false (s := 71) (b' := false) rfl rfl nofun ?_
   refine TO.guard_false (s := 71) (b' := false) rfl rfl nofun ?_
   refine TO.guard_false (s := 71) (b' := false) rfl rfl nofun ?_
   refine rdx (rd_pick_false (v := .bool _) rfl rfl) ?_
   refine rdx (rd_move (v := .bool _) rfl) ?_
   refine TO.guard_true (s := 80) rfl rfl ?_
   refine rdx (rd_move (v := .int _ _) rfl) ?_
   refine TO.guard_true (s := 80) rfl rfl ?_
   refine rdx (rd_lss_true rfl rfl (by omega)) ?_
   refine TO.guard_true (s := 80) rfl rfl ?_
   refine rdx (rd_move (v := .bool _) rfl) ?_
   refine TO.guard_true (s := 83) rfl rfl ?_
   refine rdx (rd_fieldAddr Tryz.field30_0 rfl) ?_
   refine TO.guard_true (s := 83) rfl rfl ?_
   refine rdx (rd_load (v := .int _ _) Tryz.one3 rfl (Has.own 3 rfl) rfl) ?_
   refine TO.guard_true (s := 83) rfl rfl ?_
   refine rdx (rd_move (v := .int _ _) rfl) ?_
   refine TO.guard_true (s := 83) rfl rfl ?_
   refine rdx (rd_neq rfl rfl) ?_
   refine TO.guard_true (s := 80) rfl rfl ?_
   refine rdx (rd_pick_true (v := .bool _) rfl rfl) ?_
   refine rdx (rd_pick_false (v := .bool _) rfl rfl) ?_
   refine TO.nil (TQ.then_normal ?_)
   refine T.cond_ft rfl (fun h18 => ?_) (fun h18 => ?_)
   ·try simp only [nrm] at h18
    refine T.skip (TQ.block_normal ?_)
    refine TQ.rend (()) ?_ (fun _ _ h => h)
    ·try dsimp only
     first | exact ⟨chain_next1 hc1 hk1 (by rw [chainP, getD_get _ hk1]; simp_all), fun h => by omega⟩ | exact ⟨chain_next2 hc1 (by omega), fun _ => by rw [show l.length = k by omega]; simp_all⟩
   try simp only [nrm] at h18
   refine T.seq (T.region ?_)
   refine rdx (rd_move (v := .int _ _) rfl) ?_
   refine TO.front1 ?_
   refine TO.store0 (cells' := #[.int _ _]) Tryz.size3 rfl (v := .int _ _) rfl rfl rfl (Nat.le_of_ble_eq_true rfl) rfl ?_
   refine TO.front2 ?_
   refine TO.store0 (cells' := #[.int _ _]) Tryz.size3 rfl (v := .int _ _) rfl rfl rfl (Nat.le_of_ble_eq_true rfl) rfl ?_
   refine TO.nil (TQ.then_normal (T.ret (TQ.block_ret ?_)))
   refine TQ.rleave (.inl ⟨rfl, rfl⟩) (-1) ?_ rfl (fun _ _ h => h.sel (js := [2, 1, 0, 3, 4]) (by decide))
   ·try dsimp only
    first | exact .inl ⟨k, hk1, by rwa [Nat.min_eq_left (by omega)] at hc1, by rw [chainP, getD_get _ hk1]; simp_all, rfl⟩ | exact .inr ⟨by rwa [Nat.min_eq_right (by omega)] at hc1, by rw [show l.length = k by omega]; simp_all, rfl⟩
 ·obtain ⟨hc1, hc2⟩ := hx
  have e4 : firstIx (chainP w.holder l) l.length = none := firstIx_none (by rwa [Nat.min_eq_right (by omega)] at hc1)
  have e5 : ¬ (w.signer ≠ whoAt w.holder l l.length) := by simp [hc2 (by omega)]
  refine TQ.block_normal (TQ.then_normal (T.seq (T.seq (T.region ?_))))
  refine rdx (rd_load_agg (cs := #[.int _ _, .int _ _, .int _ _, .int _ _, .int _ _, .int _ _, .int _ _, .int _ _, .string _]) Tryz.agg30 rfl (Has.own 3 rfl) rfl rfl) ?_
  refine rdx (rd_load (v := .slice _ _ _) Tryz.one31 rfl (Has.own 4 rfl) rfl) ?_
  refine TO.fn Tryz.enters49 (c_wish_scope _ _ _ _ l (by first | rfl | simp | omega) (by first | omega | assumption)) rfl (ReadsC (Has.arg 2 rfl) Reads0) ?_
  refine rdx (rd_move (v := .tuple _) rfl) ?_
  refine rdx (rd_extract (v := .int _ _) (vs := _) rfl rfl) ?_
  refine rdx (rd_extract (v := .bool _) (vs := _) rfl rfl) ?_
  refine rdx (rd_assign (v := .int _ _) rfl) ?_
  refine rdx (rd_assign (v := .bool _) rfl) ?_
  refine TO.nil (TQ.then_normal (T.seq (T.region ?_)))
  refine rdx (rd_move (v := .bool _) rfl) ?_
  refine TO.nil (TQ.then_normal ?_)
  refine T.cond rfl (fun h19 => ?_) (fun h19 => ?_)
  ·try simp only [nrm] at h19
   refine T.seq (T.region ?_)
   refine rdx (rd_move (v := .int _ _) rfl) ?_
   refine TO.front1 ?_
   refine TO.store0 (cells' := #[.int _ _]) Tryz.size3 rfl (v := .int _ _) rfl rfl rfl (Nat.le_of_ble_eq_true rfl) rfl ?_
   refine TO.front2 ?_
   refine TO.store0 (cells' := #[.int _ _]) Tryz.size3 rfl (v := .int _ _) rfl rfl rfl (Nat.le_of_ble_eq_true rfl) rfl ?_
   refine TO.nil (TQ.then_normal (T.ret (TQ.then_ret ?_)))
   refine TQ.front2 ?_
   refine TQ.valueM ?_ (res2 Tryz.results13 (Res.cell (v := .int _ _) Tryz.one3 rfl (Has.own 1 rfl) rfl) (Res.cell (v := .int _ _) Tryz.one3 rfl (Has.own 0 rfl) rfl)) _ (.inl rfl)
   exact tup2 (by rw [whyOf, if_neg e0, e1, oneOr_none, if_neg (show ¬ (t < w.slo ∨ w.shi ≤ t) by omega), if_neg (show ¬ (nu < w.rlo ∨ w.rhi ≤ nu) by omega), e4, oneOr_none, if_neg e5, scope_why, if_pos h19])
  try simp only [nrm] at h19
  refine T.skip (TQ.then_normal (T.seq (T.seq (T.region ?_))))
  refine rdx (rd_load (v := .slice _ _ _) Tryz.one31 rfl (Has.own 4 rfl) rfl) ?_
  refine rdx (rd_lensl Tryz.under31 rfl) ?_
  refine rdx (rd_move (v := .int _ _) rfl) ?_
  refine TO.nil (TQ.then_normal (T.block ?_))
  have hkl := keys_len ek
  have hfr := forms_frm e1
  have hsg := wishOk_signer (w := w) (by simp_all)
  have e6 : ¬ ((scopeR w l).2 = true) := by simp_all
  refine T.loop1 [0, 6, 10, 11, 99, 100] (fun (k : Nat) => [(101, .int .i64 (k : Nat))]) (fun (k : Nat) => []) (fun (k : Nat) => k ≤ l.length ∧ okTo (sealP ks l) k) (fun (k : Nat) => l.length - k) (0) (⟨Nat.zero_le _, okTo.zero _⟩) (And.intro (rfl) (trivial)) (fun _ _ h => h) fun k g0 hx0 => ?_
  obtain ⟨hk, hk0⟩ := hx0
  refine T.seq (T.region ?_)
  refine rdx (rd_lss rfl rfl) ?_
  refine TO.nil (TQ.then_normal (T.seq ?_))
  refine T.cond_ft rfl (fun h20 => ?_) (fun h20 => ?_)
  ·try simp only [nrm] at h20
   refine T.exit (TQ.then_exit (TQ.then_exit (TQ.block_out (TQ.then_normal (T.seq (T.seq ?_))))))
   refine T.drawq Tryz.mixes 15 [(125, 0), (126, 1), (127, 2), (128, 3), (129, 4), (130, 5), (131, 6), (132, 7), (133, 8), (134, 9), (135, 10), (136, 11), (137, 12), (138, 13), (139, 14)] [0, 1, 0, 4, 15, 31, 63, 127, 63, 63, 575, 1855, 3903, 63, 16191, 32767, 65535] (by kernel_rfl) ?_
   refine DQ.rd rfl rfl (fun _ => rd_fieldAddr Tryz.field30_0 rfl) ?_
   refine DQ.rd rfl rfl (fun _ => rd_load (v := .int _ _) Tryz.one3 rfl (Has.own 3 rfl) rfl) ?_
   refine DQ.rd rfl rfl (fun _ => rd_move (v := .slice _ _ _) rfl) ?_
   refine DQ.rd rfl rfl (fun _ => rd_lensl Tryz.under32 rfl) ?_
   refine DQ.rd rfl rfl (fun _ => rd_geq rfl rfl) ?_
   refine DQ.rd rfl rfl (fun _ => rd_move (v := .bool _) rfl) ?_
   refine DQ.decide 5 rfl (fun h24 => ?_) (fun h24 => ?_)
   ·try simp only [nrm] at h24
    refine DQ.off (b' := true) rfl rfl (fun _ => rfl) nofun ?_
    refine DQ.off (b' := true) rfl rfl (fun _ => rfl) nofun ?_
    refine DQ.off (b' := true) rfl rfl (fun _ => rfl) nofun ?_
    refine DQ.off (b' := true) rfl rfl (fun _ => rfl) nofun ?_
    refine DQ.off (b' := true) rfl rfl (fun _ => rfl) nofun ?_
    refine DQ.off (b' := true) rfl rfl (fun _ => rfl) nofun ?_
    refine DQ.off (b' := true) rfl rfl (fun _ => rfl) nofun ?_
    refine DQ.off (b' := true) rfl rfl (fun _ => rfl) nofun ?_
    refine DQ.off (b' := true) rfl rfl (fun _ => rfl) nofun ?_
    refine DQ.done rfl ?_
    refine TO.guard_false (s := 130) (b' := true) rfl rfl nofun ?_
    refine rdx (rd_pick_true (v := .bool _) rfl rfl) ?_
    refine TO.nil (TQ.then_normal ?_)
    refine T.cond_true rfl ?_
    refine T.seq (T.region ?_)
    refine TO.front1 ?_
    refine TO.store0 (cells' := #[.int _ _]) Tryz.size3 rfl (v := .int _ _) rfl rfl rfl (Nat.le_of_ble_eq_true rfl) rfl ?_
    refine TO.front2 ?_
    refine TO.store0 (cells' := #[.int _ _]) Tryz.size3 rfl (v := .int _ _) rfl rfl rfl (Nat.le_of_ble_eq_true rfl) rfl ?_
    refine TO.nil (TQ.then_normal (T.ret (TQ.then_ret ?_)))
    refine TQ.front2 ?_
    refine TQ.valueM ?_ (res2 Tryz.results13 (Res.cell (v := .int _ _) Tryz.one3 rfl (Has.own 1 rfl) rfl) (Res.cell (v := .int _ _) Tryz.one3 rfl (Has.own 0 rfl) rfl)) _ (.inl rfl)
    have e8 : firstIx (sealP ks l) l.length = none := firstIx_none fun i hi => hk0 i (by omega)
    exact tup2 (by rw [whyOf, if_neg e0, e1, oneOr_none, if_neg (show ¬ (t < w.slo ∨ w.shi ≤ t) by omega), if_neg (show ¬ (nu < w.rlo ∨ w.rhi ≤ nu) by omega), e4, oneOr_none, if_neg e5, scope_why, if_neg e6, e8, oneOr_none, if_pos (by rw [sealBadW, decide_eq_true (by omega)]; rfl)])
   try simp only [nrm] at h24
   refine DQ.rdg rfl rfl (fun _ => rfl) (fun _ => rd_fieldAddr Tryz.field30_6 rfl) ?_
   refine DQ.rdg rfl rfl (fun _ => rfl) (fun _ => rd_load (v := .string _) Tryz.one9 rfl (Has.own 3 rfl) rfl) ?_
   refine DQ.rdg rfl rfl (fun _ => rfl) (fun _ => rd_move (v := .slice _ _ _) rfl) ?_
   refine DQ.rdg rfl rfl (fun _ => rfl) (fun _ => rd_fieldAddr Tryz.field30_0 rfl) ?_
   refine DQ.rdg rfl rfl (fun _ => rfl) (fun _ => rd_load (v := .int _ _) Tryz.one3 rfl (Has.own 3 rfl) rfl) ?_
   refine DQ.rdg rfl rfl (fun _ => rfl) (fun _ => rd_ix (k := (w.signer.toNat)) Tryz.under32 Tryz.size9 rfl rfl (Has.arg 1 rfl) (by omega) (by omega) (by omega)) ?_
   refine DQ.rdg rfl rfl (fun _ => rfl) (fun _ => rd_el (v := .string _) (w.signer.toNat) 0 Tryz.one9 rfl (Has.arg 1 rfl) rfl (by omega) (Nat.le_of_ble_eq_true rfl) rfl) ?_
   have hk137 := hkl (w.signer.toNat) (by omega)
   refine DQ.rdg rfl rfl (fun _ => rfl) (fun _ => rd_clo (b := [_]) rfl) ?_
   refine DQ.fng rfl rfl (fun _ => rfl) Tryz.enters50 (c_seal _ _ _ _ _ Tryz.enters53 (fun b => c_Why3 b _ w) (wishText_ne w) (Nat.le_trans (wishText_le w) (by decide)) (by omega)) (fun _ => rfl) (ReadsC (Has.arg 0 rfl) (ReadsC (Has.own 3 rfl) Reads0)) ?_
   refine DQ.done rfl ?_
   refine TO.guard_true (s := 130) rfl rfl ?_
   refine rdx (rd_nes' rfl rfl) ?_
   refine rdx (rd_pick_false (v := .bool _) rfl rfl) ?_
   refine TO.nil (TQ.then_normal ?_)
   refine T.cond rfl (fun h25 => ?_) (fun h25 => ?_)
   ·try simp only [nrm] at h25
    refine T.seq (T.region ?_)
    refine TO.front1 ?_
    refine TO.store0 (cells' := #[.int _ _]) Tryz.size3 rfl (v := .int _ _) rfl rfl rfl (Nat.le_of_ble_eq_true rfl) rfl ?_
    refine TO.front2 ?_
    refine TO.store0 (cells' := #[.int _ _]) Tryz.size3 rfl (v := .int _ _) rfl rfl rfl (Nat.le_of_ble_eq_true rfl) rfl ?_
    refine TO.nil (TQ.then_normal (T.ret (TQ.then_ret ?_)))
    refine TQ.front2 ?_
    refine TQ.valueM ?_ (res2 Tryz.results13 (Res.cell (v := .int _ _) Tryz.one3 rfl (Has.own 1 rfl) rfl) (Res.cell (v := .int _ _) Tryz.one3 rfl (Has.own 0 rfl) rfl)) _ (.inl rfl)
    have e8 : firstIx (sealP ks l) l.length = none := firstIx_none fun i hi => hk0 i (by omega)
    exact tup2 (by rw [whyOf, if_neg e0, e1, oneOr_none, if_neg (show ¬ (t < w.slo ∨ w.shi ≤ t) by omega), if_neg (show ¬ (nu < w.rlo ∨ w.rhi ≤ nu) by omega), e4, oneOr_none, if_neg e5, scope_why, if_neg e6, e8, oneOr_none, if_pos (by rw [sealBadW, getD_get _ (by omega)]; simp only [Bool.or_eq_true, Bool.not_eq_true', beq_eq_false_iff_ne]; exact .inr (by assumption))])
   try simp only [nrm] at h25
   refine T.skip (TQ.then_normal (T.seq (T.region ?_)))
   refine TO.front1 ?_
   refine TO.store0 (cells' := #[.int _ _]) Tryz.size3 rfl (v := .int _ _) rfl rfl rfl (Nat.le_of_ble_eq_true rfl) rfl ?_
   refine TO.front2 ?_
   refine TO.store0 (cells' := #[.int _ _]) Tryz.size3 rfl (v := .int _ _) rfl rfl rfl (Nat.le_of_ble_eq_true rfl) rfl ?_
   refine TO.nil (TQ.then_normal (T.ret ?_))
   refine TQ.front2 ?_
   refine TQ.valueM ?_ (res2 Tryz.results13 (Res.cell (v := .int _ _) Tryz.one3 rfl (Has.own 1 rfl) rfl) (Res.cell (v := .int _ _) Tryz.one3 rfl (Has.own 0 rfl) rfl)) _ (.inl rfl)
   have e8 : firstIx (sealP ks l) l.length = none := firstIx_none fun i hi => hk0 i (by omega)
   exact tup2 (by rw [whyOf, if_neg e0, e1, oneOr_none, if_neg (show ¬ (t < w.slo ∨ w.shi ≤ t) by omega), if_neg (show ¬ (nu < w.rlo ∨ w.rhi ≤ nu) by omega), e4, oneOr_none, if_neg e5, scope_why, if_neg e6, e8, oneOr_none, if_neg (by rw [sealBadW, getD_get _ (by omega)]; simp only [Bool.or_eq_true, decide_eq_true_eq, Bool.not_eq_true', beq_eq_false_iff_ne]; rintro (h' | h') <;> first | omega | contradiction | exact h' (by assumption))])
  try simp only [nrm] at h20
  refine T.skip (TQ.then_normal (T.seq (T.block (T.seq (T.region ?_)))))
  refine rdx (rd_move (v := .int _ _) rfl) ?_
  refine rdx (rd_ix Tryz.under31 Tryz.size40 rfl rfl (Has.arg 2 rfl) rfl (by omega) (by omega)) ?_
  refine rdx (rd_ela (cs := [.int _ _, .int _ _, .int _ _, .int _ _, .int _ _, .int _ _, .string _]) _ 0 Tryz.agg40 rfl (Has.arg 2 rfl) rfl (by omega) (Nat.le_of_ble_eq_true rfl) rfl rfl rfl) ?_
  have hk9 : k < l.length := by omega
  refine TO.alloc Tryz.zero40 (fun b21 => ?_)
  refine rdx (rd_assign (v := .int _ _) rfl) ?_
  refine TO.store0 (cells' := #[.int _ _, .int _ _, .int _ _, .int _ _, .int _ _, .int _ _, .string _]) Tryz.size40 rfl (v := .agg #[.int _ _, .int _ _, .int _ _, .int _ _, .int _ _, .int _ _, .string _]) rfl rfl rfl (Nat.le_of_ble_eq_true rfl) rfl ?_
  refine TO.nil (TQ.then_normal (T.seq ?_))
  refine T.drawq Tryz.mixes 15 [(106, 0), (107, 1), (108, 2), (109, 3), (110, 4), (111, 5), (112, 6), (113, 7), (114, 8), (115, 9), (116, 10), (117, 11), (118, 12), (119, 13), (120, 14)] [0, 1, 0, 4, 15, 31, 63, 127, 63, 63, 575, 1855, 3903, 63, 16191, 32767, 65535] (by kernel_rfl) ?_
  refine DQ.rd rfl rfl (fun _ => rd_fieldAddr Tryz.field40_0 rfl) ?_
  refine DQ.rd rfl rfl (fun _ => rd_load (v := .int _ _) Tryz.one3 rfl (Has.own 0 rfl) rfl) ?_
  refine DQ.rd rfl rfl (fun _ => rd_move (v := .slice _ _ _) rfl) ?_
  refine DQ.rd rfl rfl (fun _ => rd_lensl Tryz.under32 rfl) ?_
  refine DQ.rd rfl rfl (fun _ => rd_geq rfl rfl) ?_
  refine DQ.rd rfl rfl (fun _ => rd_move (v := .bool _) rfl) ?_
  refine DQ.decide 5 rfl (fun h22 => ?_) (fun h22 => ?_)
  ·try simp only [nrm] at h22
   refine DQ.off (b' := true) rfl rfl (fun _ => rfl) nofun ?_
   refine DQ.off (b' := true) rfl rfl (fun _ => rfl) nofun ?_
   refine DQ.off (b' := true) rfl rfl (fun _ => rfl) nofun ?_
   refine DQ.off (b' := true) rfl rfl (fun _ => rfl) nofun ?_
   refine DQ.off (b' := true) rfl rfl (fun _ => rfl) nofun ?_
   refine DQ.off (b' := true) rfl rfl (fun _ => rfl) nofun ?_
   refine DQ.off (b' := true) rfl rfl (fun _ => rfl) nofun ?_
   refine DQ.off (b' := true) rfl rfl (fun _ => rfl) nofun ?_
   refine DQ.off (b' := true) rfl rfl (fun _ => rfl) nofun ?_
   refine DQ.done rfl ?_
   refine TO.guard_false (s := 111) (b' := true) rfl rfl nofun ?_
   refine rdx (rd_pick_true (v := .bool _) rfl rfl) ?_
   refine TO.nil (TQ.then_normal ?_)
   refine T.cond_true rfl ?_
   refine T.seq (T.region ?_)
   refine rdx (rd_move (v := .int _ _) rfl) ?_
   refine TO.front2 ?_
   refine TO.store0 (cells' := #[.int _ _]) Tryz.size3 rfl (v := .int _ _) rfl rfl rfl (Nat.le_of_ble_eq_true rfl) rfl ?_
   refine TO.front3 ?_
   refine TO.store0 (cells' := #[.int _ _]) Tryz.size3 rfl (v := .int _ _) rfl rfl rfl (Nat.le_of_ble_eq_true rfl) rfl ?_
   refine TO.nil (TQ.then_normal (T.ret (TQ.block_ret (TQ.then_ret (TQ.then_ret (TQ.block_ret (TQ.then_ret ?_)))))))
   refine TQ.front3 ?_
   refine TQ.valueM ?_ (res2 Tryz.results13 (Res.cell (v := .int _ _) Tryz.one3 rfl (Has.own 1 rfl) rfl) (Res.cell (v := .int _ _) Tryz.one3 rfl (Has.own 0 rfl) rfl)) _ (.inl rfl)
   exact tup2 (by rw [whyOf, if_neg e0, e1, oneOr_none, if_neg (show ¬ (t < w.slo ∨ w.shi ≤ t) by omega), if_neg (show ¬ (nu < w.rlo ∨ w.rhi ≤ nu) by omega), e4, oneOr_none, if_neg e5, scope_why, if_neg e6, firstIx_some hk0 (by rw [sealP, getD_get _ (by omega), sealBadP]; simp_all) (by omega), oneOr_some])
  try simp only [nrm] at h22
  refine DQ.rdg rfl rfl (fun _ => rfl) (fun _ => rd_fieldAddr Tryz.field40_4 rfl) ?_
  refine DQ.rdg rfl rfl (fun _ => rfl) (fun _ => rd_load (v := .string _) Tryz.one9 rfl (Has.own 0 rfl) rfl) ?_
  refine DQ.rdg rfl rfl (fun _ => rfl) (fun _ => rd_move (v := .slice _ _ _) rfl) ?_
  refine DQ.rdg rfl rfl (fun _ => rfl) (fun _ => rd_fieldAddr Tryz.field40_0 rfl) ?_
  refine DQ.rdg rfl rfl (fun _ => rfl) (fun _ => rd_load (v := .int _ _) Tryz.one3 rfl (Has.own 0 rfl) rfl) ?_
  refine DQ.rdg rfl rfl (fun _ => rfl) (fun _ => rd_ix (k := ((l[k]'hk9).frm.toNat)) Tryz.under32 Tryz.size9 rfl rfl (Has.arg 1 rfl) (by have := hfr k (by omega); omega) (by have := hfr k (by omega); omega) (by omega)) ?_
  refine DQ.rdg rfl rfl (fun _ => rfl) (fun _ => rd_el (v := .string _) ((l[k]'hk9).frm.toNat) 0 Tryz.one9 rfl (Has.arg 1 rfl) rfl (by have := hfr k (by omega); omega) (Nat.le_of_ble_eq_true rfl) rfl) ?_
  have hk118 := hkl ((l[k]'hk9).frm.toNat) (by have := hfr k (by omega); omega)
  refine DQ.rdg rfl rfl (fun _ => rfl) (fun _ => rd_clo (b := [_]) rfl) ?_
  refine DQ.fng rfl rfl (fun _ => rfl) Tryz.enters50 (c_seal _ _ _ _ _ Tryz.enters51 (fun b => c_Why2 b _ (l[k]'hk9)) (proxyText_ne (l[k]'hk9)) (Nat.le_trans (proxyText_le (l[k]'hk9)) (by decide)) (by omega)) (fun _ => rfl) (ReadsC (Has.arg 0 rfl) (ReadsC (Has.own 0 rfl) Reads0)) ?_
  refine DQ.done rfl ?_
  refine TO.guard_true (s := 111) rfl rfl ?_
  refine rdx (rd_nes' rfl rfl) ?_
  refine rdx (rd_pick_false (v := .bool _) rfl rfl) ?_
  refine TO.nil (TQ.then_normal ?_)
  refine T.cond_ft rfl (fun h23 => ?_) (fun h23 => ?_)
  ·try simp only [nrm] at h23
   refine T.skip (TQ.block_normal (TQ.then_normal (T.region ?_)))
   refine rdx (rd_add rfl rfl (w64 (by omega) (by omega))) ?_
   refine rdx (rd_move (v := .int _ _) rfl) ?_
   refine TO.nil ?_
   refine TQ.againk (k + 1) ?_ ?_ (And.intro (rfl) (trivial)) (And.intro (rfl) (And.intro (rfl) (And.intro (rfl) (And.intro (rfl) (And.intro (rfl) (And.intro (rfl) (trivial))))))) (fun _ _ h => h.sel (js := [1, 2, 3, 4, 5, 6, 7]) (by decide))
   ·exact ⟨by first | omega | (dsimp only; omega), hk0.next (by rw [sealP, getD_get _ (by omega), sealBadP]; simp_all)⟩
   ·first | omega | (dsimp only; omega)
  try simp only [nrm] at h23
  refine T.seq (T.region ?_)
  refine rdx (rd_move (v := .int _ _) rfl) ?_
  refine TO.front2 ?_
  refine TO.store0 (cells' := #[.int _ _]) Tryz.size3 rfl (v := .int _ _) rfl rfl rfl (Nat.le_of_ble_eq_true rfl) rfl ?_
  refine TO.front3 ?_
  refine TO.store0 (cells' := #[.int _ _]) Tryz.size3 rfl (v := .int _ _) rfl rfl rfl (Nat.le_of_ble_eq_true rfl) rfl ?_
  refine TO.nil (TQ.then_normal (T.ret (TQ.block_ret (TQ.then_ret (TQ.then_ret (TQ.block_ret (TQ.then_ret ?_)))))))
  refine TQ.front3 ?_
  refine TQ.valueM ?_ (res2 Tryz.results13 (Res.cell (v := .int _ _) Tryz.one3 rfl (Has.own 1 rfl) rfl) (Res.cell (v := .int _ _) Tryz.one3 rfl (Has.own 0 rfl) rfl)) _ (.inl rfl)
  exact tup2 (by rw [whyOf, if_neg e0, e1, oneOr_none, if_neg (show ¬ (t < w.slo ∨ w.shi ≤ t) by omega), if_neg (show ¬ (nu < w.rlo ∨ w.rhi ≤ nu) by omega), e4, oneOr_none, if_neg e5, scope_why, if_neg e6, firstIx_some hk0 (by rw [sealP, getD_get _ (by omega), sealBadP, getD_get _ (by have := hfr k (by omega); omega)]; simp_all) (by omega), oneOr_some])
 refine T.ret (TQ.block_ret (TQ.then_ret ?_))
 refine TQ.valueM ?_ (res2 Tryz.results13 (Res.cell (v := .int _ _) Tryz.one3 rfl (Has.own 0 rfl) rfl) (Res.cell (v := .int _ _) Tryz.one3 rfl (Has.own 1 rfl) rfl)) _ (.inl rfl)
 rcases hy with ⟨k, hk1, hk2, hk3, rfl⟩ | ⟨hk1, hk2, rfl⟩
 ·exact tup2 (by rw [whyOf, if_neg e0, e1, oneOr_none, if_neg (show ¬ (t < w.slo ∨ w.shi ≤ t) by omega), if_neg (show ¬ (nu < w.rlo ∨ w.rhi ≤ nu) by omega), firstIx_some hk2 hk3 hk1, oneOr_some])
 ·exact tup2 (by rw [whyOf, if_neg e0, e1, oneOr_none, if_neg (show ¬ (t < w.slo ∨ w.shi ≤ t) by omega), if_neg (show ¬ (nu < w.rlo ∨ w.rhi ≤ nu) by omega), firstIx_none hk1, oneOr_none, if_pos hk2])
end Go.Proofs
end
section
set_option linter.unusedVariables false
set_option linter.unusedSimpArgs false
set_option maxRecDepth 100000
set_option maxHeartbeats 800000
namespace Go.Proofs
open Go.TL
attribute [local irreducible] Go.TL.T Go.TL.TO Go.TL.TQ
theorem c_wish_Valid (A : Option Addr) (cap n : Nat) (ks : List Bytes) (hn : n = ks.length) (w : Wish) (B : Option Addr) (capb m : Nat) (l : List Proxy) (hm : m = l.length) (nu t : Int) (hksl : ks.length ≤ 4611686018427387904) (hll : l.length ≤ 4611686018427387904) : Cv Tryz.prog 15 #[.slice A n cap, wishV w, .slice B m capb, .int .i64 nu, .int .i64 t] [glob 0 roundC 162, slc eStr 1 A ks, slc proxyL 7 B l] (.bool (validOf ks w l nu t)) := by
 subst hn hm
 refine Ctr.intro Tryz.func15 rfl Tryz.ntmps15 (Nat.le_of_ble_eq_true rfl) fun S0 w0 => ?_
 refine T.seq (T.region ?_)
 refine TO.box (v := .agg #[.int _ _, .int _ _, .int _ _, .int _ _, .int _ _, .int _ _, .int _ _, .int _ _, .string _]) rfl (fun b1 => ?_)
 refine rdx (rd_assign (v := .bool _) rfl) ?_
 refine TO.nil (TQ.then_normal (T.seq (T.region ?_)))
 refine rdx (rd_move (v := .slice _ _ _) rfl) ?_
 refine rdx (rd_load_agg (cs := #[.int _ _, .int _ _, .int _ _, .int _ _, .int _ _, .int _ _, .int _ _, .int _ _, .string _]) Tryz.agg30 rfl (Has.own 0 rfl) rfl rfl) ?_
 refine rdx (rd_move (v := .slice _ _ _) rfl) ?_
 refine rdx (rd_move (v := .int _ _) rfl) ?_
 refine rdx (rd_move (v := .int _ _) rfl) ?_
 refine TO.fn Tryz.enters13 (c_wish_Why _ _ _ ks (by first | rfl | simp | omega) _ _ _ _ l (by first | rfl | simp | omega) _ _ (by first | omega | assumption | (rw [keysN_len]; omega)) (by first | omega | assumption | (simp; done) | (simp only [List.length_drop, List.length_take, List.length_append]; omega))) rfl (ReadsC (Has.arg 0 rfl) (ReadsC (Has.arg 1 rfl) (ReadsC (Has.arg 2 rfl) Reads0))) ?_
 refine rdx (rd_move (v := .tuple _) rfl) ?_
 refine rdx (rd_extract (v := .int _ _) (vs := _) rfl rfl) ?_
 refine rdx (rd_extract (v := .int _ _) (vs := _) rfl rfl) ?_
 refine rdx (rd_assign (v := .int _ _) rfl) ?_
 refine rdx (rd_assign (v := .int _ _) rfl) ?_
 refine TO.nil (TQ.then_normal (T.seq (T.region ?_)))
 refine rdx (rd_move (v := .int _ _) rfl) ?_
 refine rdx (rd_eql rfl rfl) ?_
 refine rdx (rd_assign (v := .bool _) rfl) ?_
 refine TO.nil (TQ.then_normal (T.ret ?_))
 refine TQ.value ?_ (res1 Tryz.results15 (Res.tmp (v := .bool _) rfl)) _ (.inl rfl)
 rfl
theorem c_wish_Account (k0 : Bytes) (n e : Int) (hk : k0.length ≤ 1000000000) : Cv Tryz.prog 29 #[.string (str k0), .int .i64 n, .int .i64 e] [glob 0 roundC 162] (.tuple #[.string (str (account k0 n e).1), .int .i64 (account k0 n e).2]) := by
 refine Ctr.intro Tryz.func29 rfl Tryz.ntmps29 (Nat.le_of_ble_eq_true rfl) fun S0 w0 => ?_
 refine T.seq (T.region ?_)
 refine TO.box (v := .int _ _) rfl (fun b1 => ?_)
 refine TO.box (v := .int _ _) rfl (fun b2 => ?_)
 refine rdx (rd_assign (v := .string _) rfl) ?_
 refine rdx (rd_assign (v := .int _ _) rfl) ?_
 refine TO.nil (TQ.then_normal (T.seq (T.seq (T.region ?_))))
 refine rdx (rd_move (v := .string _) rfl) ?_
 refine TO.fn Tryz.enters43 (c_wish_isKey _) rfl Reads0 ?_
 refine rdx (rd_not rfl) ?_
 refine rdx (rd_move (v := .bool _) rfl) ?_
 refine TO.decide (s := 14) rfl (fun h3 => ?_) (fun h3 => ?_)
 ·try simp only [nrm] at h3
  refine TO.guard_false (s := 14) (b' := true) rfl rfl nofun ?_
  refine TO.guard_false (s := 14) (b' := true) rfl rfl nofun ?_
  refine TO.guard_false (s := 14) (b' := true) rfl rfl nofun ?_
  refine rdx (rd_pick_true (v := .bool _) rfl rfl) ?_
  refine rdx (rd_move (v := .bool _) rfl) ?_
  refine TO.guard_false (s := 19) (b' := true) rfl rfl nofun ?_
  refine TO.guard_false (s := 19) (b' := true) rfl rfl nofun ?_
  refine TO.guard_false (s := 19) (b' := true) rfl rfl nofun ?_
  refine rdx (rd_pick_true (v := .bool _) rfl rfl) ?_
  refine TO.nil (TQ.then_normal ?_)
  refine T.cond_true rfl ?_
  refine T.seq (T.region ?_)
  refine rdx (rd_assign (v := .string _) rfl) ?_
  refine rdx (rd_assign (v := .int _ _) rfl) ?_
  refine TO.nil (TQ.then_normal (T.ret (TQ.then_ret ?_)))
  refine TQ.value ?_ (res2 Tryz.results29 (Res.tmp (v := .string _) rfl) (Res.tmp (v := .int _ _) rfl)) _ (.inl rfl)
  rw [account, if_neg (by rintro ⟨e1, e2, e3⟩; first | omega | simp_all)]; rfl
 try simp only [nrm] at h3
 refine TO.guard_true (s := 14) rfl rfl ?_
 refine rdx (rd_load (v := .int _ _) Tryz.one3 rfl (Has.own 1 rfl) rfl) ?_
 refine TO.guard_true (s := 14) rfl rfl ?_
 refine TO.fn Tryz.enters47 (c_wish_isWithin _ _ _) rfl Reads0 ?_
 refine TO.guard_true (s := 14) rfl rfl ?_
 refine rdx (rd_not rfl) ?_
 refine rdx (rd_pick_false (v := .bool _) rfl rfl) ?_
 refine rdx (rd_move (v := .bool _) rfl) ?_
 refine TO.decide (s := 19) rfl (fun h4 => ?_) (fun h4 => ?_)
 ·try simp only [nrm] at h4
  refine TO.guard_false (s := 19) (b' := true) rfl rfl nofun ?_
  refine TO.guard_false (s := 19) (b' := true) rfl rfl nofun ?_
  refine TO.guard_false (s := 19) (b' := true) rfl rfl nofun ?_
  refine rdx (rd_pick_true (v := .bool _) rfl rfl) ?_
  refine TO.nil (TQ.then_normal ?_)
  refine T.cond_true rfl ?_
  refine T.seq (T.region ?_)
  refine rdx (rd_assign (v := .string _) rfl) ?_
  refine rdx (rd_assign (v := .int _ _) rfl) ?_
  refine TO.nil (TQ.then_normal (T.ret (TQ.then_ret ?_)))
  refine TQ.value ?_ (res2 Tryz.results29 (Res.tmp (v := .string _) rfl) (Res.tmp (v := .int _ _) rfl)) _ (.inl rfl)
  rw [account, if_neg (by rintro ⟨e1, e2, e3⟩; first | omega | simp_all)]; rfl
 try simp only [nrm] at h4
 refine TO.guard_true (s := 19) rfl rfl ?_
 refine rdx (rd_load (v := .int _ _) Tryz.one3 rfl (Has.own 0 rfl) rfl) ?_
 refine TO.guard_true (s := 19) rfl rfl ?_
 refine TO.fn Tryz.enters47 (c_wish_isWithin _ _ _) rfl Reads0 ?_
 refine TO.guard_true (s := 19) rfl rfl ?_
 refine rdx (rd_not rfl) ?_
 refine rdx (rd_pick_false (v := .bool _) rfl rfl) ?_
 refine TO.nil (TQ.then_normal ?_)
 refine T.cond rfl (fun h5 => ?_) (fun h5 => ?_)
 ·try simp only [nrm] at h5
  refine T.seq (T.region ?_)
  refine rdx (rd_assign (v := .string _) rfl) ?_
  refine rdx (rd_assign (v := .int _ _) rfl) ?_
  refine TO.nil (TQ.then_normal (T.ret (TQ.then_ret ?_)))
  refine TQ.value ?_ (res2 Tryz.results29 (Res.tmp (v := .string _) rfl) (Res.tmp (v := .int _ _) rfl)) _ (.inl rfl)
  rw [account, if_neg (by rintro ⟨e1, e2, e3⟩; first | omega | simp_all)]; rfl
 try simp only [nrm] at h5
 refine T.skip (TQ.then_normal (T.seq (T.region ?_)))
 refine rdx (rd_move (v := .string _) rfl) ?_
 refine rdx (rd_clo (b := [_, _]) rfl) ?_
 refine TO.fn Tryz.enters50 (c_seal _ _ _ _ _ Tryz.enters74 (fun b => c_Account1 b _ _ n e) (puts3_ne n e) (Nat.le_trans (puts3_le _ _ _) (by decide)) (by omega)) rfl (ReadsC (Has.arg 0 rfl) (ReadsC (Has.own 1 rfl) (ReadsC (Has.own 0 rfl) Reads0))) ?_
 obtain ⟨s0, hs0⟩ : ∃ s0, s0 = sealOf k0 (puts [3, n, e]) := ⟨_, rfl⟩
 rw [← hs0]
 have hsl : s0.length = 32 := by rw [hs0]; exact sealOf_len _ _
 refine rdx (rd_assign (v := .string _) rfl) ?_
 refine TO.nil (TQ.then_normal (T.seq (T.region ?_)))
 refine TO.alloc Tryz.zero100 (fun b6 => ?_)
 refine TO.tobld (e := 5) ?_
 refine TO.nil (TQ.then_normal (T.seq (T.seq (T.region ?_))))
 refine rdx (rd_move (v := .int _ _) rfl) ?_
 refine TO.nil (TQ.then_normal (T.block ?_))
 refine T.loop1 [8, 9] (fun (k : Nat) => [(27, .int .i64 (k : Nat))]) (fun (k : Nat) => [bld 5 100 b6 ((s0.take k).flatMap hexByte)]) (fun (k : Nat) => k ≤ 8) (fun (k : Nat) => 8 - k) (0) (Nat.zero_le _) (And.intro (rfl) (trivial)) (fun _ _ h => h) fun k g0 hx0 => ?_
 have hlx := hexLen (s0.take k)
 rw [List.length_take] at hlx
 refine T.seq (T.region ?_)
 refine rdx (rd_lss rfl rfl) ?_
 refine TO.nil (TQ.then_normal (T.seq ?_))
 refine T.cond_ft rfl (fun h7 => ?_) (fun h7 => ?_)
 ·try simp only [nrm] at h7
  refine T.exit (TQ.then_exit (TQ.then_exit (TQ.block_out (TQ.then_normal (T.seq (T.region ?_))))))
  refine TO.hand Tryz.enters66 rfl (c_String _ _ _ (by rw [show k = 8 by omega]; intro hq; have := hexLen (s0.take 8); rw [hq, List.length_take] at this; simp at this; omega)) rfl rfl Reads0 (fun _ hx10 => ?_)
  refine rdx (rd_assign (v := .string _) rfl) ?_
  refine rdx (rd_assign (v := .int _ _) rfl) ?_
  refine TO.nil (TQ.then_normal (T.ret ?_))
  refine TQ.value ?_ (res2 Tryz.results29 (Res.tmp (v := .string _) rfl) (Res.tmp (v := .int _ _) rfl)) _ (.inl rfl)
  rw [account, if_pos ⟨by omega, by simp_all, by simp_all⟩, ← hs0, hexOf, show k = 8 by omega]
 try simp only [nrm] at h7
 refine T.skip (TQ.then_normal (T.seq (T.block (T.seq (T.region ?_)))))
 refine rdx (rd_move (v := .int _ _) rfl) ?_
 refine rdx (rd_assign (v := .int _ _) rfl) ?_
 refine TO.nil (TQ.then_normal (T.seq (T.region ?_)))
 refine rdx (rd_move (v := .string _) rfl) ?_
 refine rdx (rd_move (v := .int _ _) rfl) ?_
 refine rdx (rd_idxs (a := s0) (j := k) Tryz.under9 rfl rfl rfl (by omega)) ?_
 refine rdx (rd_shr8 rfl rfl rfl (UInt8.toNat_lt _)) ?_
 refine rdx (rd_hexs (j := (s0[k]'(by omega)).toNat / 16) Tryz.under9 rfl rfl (by have := (s0[k]'(by omega)).toNat_lt; omega)) ?_
 refine TO.hand Tryz.enters75 rfl (c_WriteByte _ _ _ _ (by first | exact Tryz.lies102_100 | exact Tryz.lies100_100) (by first | omega | exact wishText_le _ | exact proxyText_le _ | exact puts3_le _ _ _ | (simp only [List.length_append, List.length_cons, List.length_nil, sha_len, leafOf_len, nodeOf_len, sealOf_len, List.length_take, List.length_drop]; omega) | (rw [keyB_len]; omega))) rfl rfl Reads0 (fun _ hx8 => ?_)
 refine TO.nil (TQ.then_normal (T.region ?_))
 refine rdx (rd_move (v := .string _) rfl) ?_
 refine rdx (rd_move (v := .int _ _) rfl) ?_
 refine rdx (rd_idxs (a := s0) (j := k) Tryz.under9 rfl rfl rfl (by omega)) ?_
 refine rdx (rd_and15 rfl rfl rfl (UInt8.toNat_lt _)) ?_
 refine rdx (rd_hexs (j := (s0[k]'(by omega)).toNat % 16) Tryz.under9 rfl rfl (by omega)) ?_
 refine TO.hand Tryz.enters75 rfl (c_WriteByte _ _ _ _ (by first | exact Tryz.lies102_100 | exact Tryz.lies100_100) (by first | omega | exact wishText_le _ | exact proxyText_le _ | exact puts3_le _ _ _ | (simp only [List.length_append, List.length_cons, List.length_nil, sha_len, leafOf_len, nodeOf_len, sealOf_len, List.length_take, List.length_drop]; omega) | (rw [keyB_len]; omega))) rfl rfl Reads0 (fun _ hx9 => ?_)
 refine TO.bld_eq ((s0.take (k + 1)).flatMap hexByte) (by rw [← take_snoc (by omega), List.flatMap_append]; simp [hexByte]) ?_
 refine TO.nil (TQ.block_normal (TQ.then_normal (T.region ?_)))
 refine rdx (rd_add rfl rfl (w64 (by omega) (by omega))) ?_
 refine rdx (rd_move (v := .int _ _) rfl) ?_
 refine TO.nil ?_
 refine TQ.againk (k + 1) ?_ ?_ (And.intro (rfl) (trivial)) (And.intro (rfl) (And.intro (rfl) (trivial))) (fun _ _ h => h)
 ·first | omega | (dsimp only; omega)
 ·first | omega | (dsimp only; omega)
theorem c_wish_Checks (k : Bytes) (n e : Int) (c : Bytes) (hk : k.length ≤ 1000000000) : Cv Tryz.prog 31 #[.string (str k), .int .i64 n, .int .i64 e, .string (str c)] [glob 0 roundC 162] (.bool (checks k n e c)) := by
 refine Ctr.intro Tryz.func31 rfl Tryz.ntmps31 (Nat.le_of_ble_eq_true rfl) fun S0 w0 => ?_
 refine T.seq (T.region ?_)
 refine rdx (rd_assign (v := .bool _) rfl) ?_
 refine TO.nil (TQ.then_normal (T.seq (T.region ?_)))
 refine rdx (rd_move (v := .string _) rfl) ?_
 refine rdx (rd_move (v := .int _ _) rfl) ?_
 refine rdx (rd_move (v := .int _ _) rfl) ?_
 refine TO.fn Tryz.enters29 (c_wish_Account _ _ _ (by first | (rw [keyB_len]; omega) | omega | assumption)) rfl (ReadsC (Has.arg 0 rfl) Reads0) ?_
 refine rdx (rd_move (v := .tuple _) rfl) ?_
 refine rdx (rd_extract (v := .string _) (vs := _) rfl rfl) ?_
 refine rdx (rd_extract (v := .int _ _) (vs := _) rfl rfl) ?_
 refine rdx (rd_assign (v := .string _) rfl) ?_
 refine rdx (rd_assign (v := .int _ _) rfl) ?_
 refine TO.nil (TQ.then_normal (T.seq (T.region ?_)))
 refine rdx (rd_move (v := .int _ _) rfl) ?_
 refine rdx (rd_eql rfl rfl) ?_
 refine rdx (rd_move (v := .bool _) rfl) ?_
 refine TO.decide_ft (s := 20) rfl (fun h1 => ?_) (fun h1 => ?_)
 ·refine TO.guard_false (s := 20) (b' := false) rfl rfl nofun ?_
  refine TO.guard_false (s := 20) (b' := false) rfl rfl nofun ?_
  refine TO.guard_false (s := 20) (b' := false) rfl rfl nofun ?_
  refine rdx (rd_pick_false (v := .bool _) rfl rfl) ?_
  refine rdx (rd_assign (v := .bool _) rfl) ?_
  refine TO.nil (TQ.then_normal (T.ret ?_))
  refine TQ.value ?_ (res1 Tryz.results31 (Res.tmp (v := .bool _) rfl)) _ (.inl rfl)
  show Value.bool _ = Value.bool _; simp [checks, h1]
 refine TO.guard_true (s := 20) rfl rfl ?_
 refine rdx (rd_move (v := .string _) rfl) ?_
 refine TO.guard_true (s := 20) rfl rfl ?_
 refine rdx (rd_move (v := .string _) rfl) ?_
 refine TO.guard_true (s := 20) rfl rfl ?_
 refine rdx (rd_eqs' rfl rfl) ?_
 refine rdx (rd_pick_true (v := .bool _) rfl rfl) ?_
 refine rdx (rd_assign (v := .bool _) rfl) ?_
 refine TO.nil (TQ.then_normal (T.ret ?_))
 refine TQ.value ?_ (res1 Tryz.results31 (Res.tmp (v := .bool _) rfl)) _ (.inl rfl)
 show Value.bool _ = Value.bool _; simp [checks, h1]
end Go.Proofs
end
section
set_option linter.unusedVariables false
set_option linter.unusedSimpArgs false
set_option maxRecDepth 100000
set_option maxHeartbeats 800000
namespace Go.Proofs
open Go.TL
attribute [local irreducible] Go.TL.T Go.TL.TO Go.TL.TQ
theorem c_law15_is (w : Wish) (A : Option Addr) (cap n : Nat) (l : List Proxy) (hn : n = l.length) (nu t r i : Int) (hll : l.length ≤ 4611686018427387904) : Cv Tryz.prog 39 #[wishV w, .slice A n cap, .int .i64 nu, .int .i64 t, .int .i64 r, .int .i64 i] [glob 0 roundC 162, slc proxyL 7 A l] (.bool (isOf w l nu t r i)) := by
 subst hn
 refine Ctr.intro Tryz.func39 rfl Tryz.ntmps39 (Nat.le_of_ble_eq_true rfl) fun S0 w0 => ?_
 refine T.seq (T.region ?_)
 refine TO.box (v := .agg #[.int _ _, .int _ _, .int _ _, .int _ _, .int _ _, .int _ _, .int _ _, .int _ _, .string _]) rfl (fun b1 => ?_)
 refine rdx (rd_assign (v := .bool _) rfl) ?_
 refine TO.nil (TQ.then_normal (T.seq ?_))
 refine T.drawg Tryz.mixes 10 [(16, 0), (17, 1), (18, 2), (19, 3), (20, 4), (21, 5), (15, 6), (22, 7), (23, 8), (13, 9)] [0, 0, 0, 0, 0, 31, 63, 127, 127, 255, 1023] [0] (by kernel_rfl) ?_
 refine DG.fnx rfl rfl Tryz.enters11 (c_ref15_Keys) (fun _ _ => rfl) Reads0 ?_
 refine DG.rd rfl rfl rfl (fun _ _ => rd_load_agg (cs := #[.int _ _, .int _ _, .int _ _, .int _ _, .int _ _, .int _ _, .int _ _, .int _ _, .string _]) Tryz.agg30 rfl (Has.own 0 rfl) rfl rfl) ?_
 refine DG.rd rfl rfl rfl (fun _ _ => rd_move (v := .slice _ _ _) rfl) ?_
 refine DG.rd rfl rfl rfl (fun _ _ => rd_move (v := .int _ _) rfl) ?_
 refine DG.rd rfl rfl rfl (fun _ _ => rd_move (v := .int _ _) rfl) ?_
 refine DG.fnp rfl rfl Tryz.enters13 (fun ρ => c_wish_Why (ρ 0).1 (ρ 0).2 10 (keysN 10) (by first | rfl | simp [keysN_len]) (w) _ _ _ l (by first | rfl | simp | omega) (nu) (t) (by first | omega | assumption | (rw [keysN_len]; omega)) (by first | omega | assumption | (simp; done) | (simp only [List.length_drop, List.length_take, List.length_append]; omega))) (fun _ _ => rfl) (fun ρ M hM => (ReadsC (Has.arg 0 rfl) (ReadsC (row_slc' (e := eStr) (xs := (keysN 10)) (fun _ => rfl) (by first | rfl | simp [keysN_len]) (by first | rfl | exact bytesC_flat _) (Has.fromM 0 (hM 0 rfl))) (ReadsC (Has.appR (Has.arg 1 rfl)) Reads0)))) ?_
 refine DG.rd rfl rfl rfl (fun _ _ => rd_move (v := .tuple _) rfl) ?_
 refine DG.rd rfl rfl rfl (fun _ _ => rd_extract (v := .int _ _) (vs := _) rfl rfl) ?_
 refine DG.rd rfl rfl rfl (fun _ _ => rd_extract (v := .int _ _) (vs := _) rfl rfl) ?_
 refine DG.rd rfl rfl rfl (fun _ _ => rd_assign (v := .int _ _) rfl) ?_
 refine DG.done rfl (by decide) rfl (fun gh3 => ?_)
 refine rdx (rd_assign (v := .int _ _) rfl) ?_
 refine TO.nil (TQ.then_normal (T.seq ?_))
 refine T.drawg Tryz.mixes 17 [(24, 0), (25, 1), (26, 2), (27, 3), (28, 4), (29, 5), (30, 6), (31, 7), (32, 8), (33, 9), (34, 10), (35, 11), (36, 12), (37, 13), (38, 14), (39, 15), (40, 16)] [0, 0, 3, 7, 15, 15, 63, 127, 255, 511, 511, 511, 511, 511, 16383, 511, 33279, 131071, 262143, 524287] [9] (by kernel_rfl) ?_
 refine DG.rd rfl rfl rfl (fun _ _ => rd_move (v := .int _ _) rfl) ?_
 refine DG.rd rfl rfl rfl (fun _ _ => rd_move (v := .int _ _) rfl) ?_
 refine DG.rd rfl rfl rfl (fun _ _ => rd_eql rfl rfl) ?_
 refine DG.rd rfl rfl rfl (fun _ _ => rd_move (v := .bool _) rfl) ?_
 refine DG.decide_ft 3 rfl (fun h4 => ?_) (fun h4 => ?_)
 ·refine DG.off (b' := false) rfl rfl rfl (fun _ _ => rfl) nofun ?_
  refine DG.off (b' := false) rfl rfl rfl (fun _ _ => rfl) nofun ?_
  refine DG.off (b' := false) rfl rfl rfl (fun _ _ => rfl) nofun ?_
  refine DG.rd rfl rfl rfl (fun _ _ => rd_pick_false (v := .bool _) rfl rfl) ?_
  refine DG.rd rfl rfl rfl (fun _ _ => rd_move (v := .bool _) rfl) ?_
  refine DG.offR (b' := false) rfl rfl rfl (fun _ _ => rfl) nofun ?_
  refine DG.off (b' := false) rfl rfl rfl (fun _ _ => rfl) nofun ?_
  refine DG.off (b' := false) rfl rfl rfl (fun _ _ => rfl) nofun ?_
  refine DG.off (b' := false) rfl rfl rfl (fun _ _ => rfl) nofun ?_
  refine DG.off (b' := false) rfl rfl rfl (fun _ _ => rfl) nofun ?_
  refine DG.off (b' := false) rfl rfl rfl (fun _ _ => rfl) nofun ?_
  refine DG.off (b' := false) rfl rfl rfl (fun _ _ => rfl) nofun ?_
  refine DG.off (b' := false) rfl rfl rfl (fun _ _ => rfl) nofun ?_
  refine DG.done rfl (by decide) rfl (fun gh11 => ?_)
  refine TO.guard_false (s := 32) (b' := false) rfl rfl nofun ?_
  refine rdx (rd_pick_false (v := .bool _) rfl rfl) ?_
  refine rdx (rd_assign (v := .bool _) rfl) ?_
  refine TO.nil (TQ.then_normal (T.ret ?_))
  refine TQ.value ?_ (res1 Tryz.results39 (Res.tmp (v := .bool _) rfl)) _ (.inl rfl)
  show Value.bool _ = Value.bool _; simp [isOf, h4]
 refine DG.rdg rfl rfl rfl (fun _ _ => rfl) (fun _ _ => rd_move (v := .int _ _) rfl) ?_
 refine DG.rdg rfl rfl rfl (fun _ _ => rfl) (fun _ _ => rd_move (v := .int _ _) rfl) ?_
 refine DG.rdg rfl rfl rfl (fun _ _ => rfl) (fun _ _ => rd_eql rfl rfl) ?_
 refine DG.rd rfl rfl rfl (fun _ _ => rd_pick_true (v := .bool _) rfl rfl) ?_
 refine DG.rd rfl rfl rfl (fun _ _ => rd_move (v := .bool _) rfl) ?_
 refine DG.decide_ft 8 rfl (fun h5 => ?_) (fun h5 => ?_)
 ·refine DG.offR (b' := false) rfl rfl rfl (fun _ _ => rfl) nofun ?_
  refine DG.off (b' := false) rfl rfl rfl (fun _ _ => rfl) nofun ?_
  refine DG.off (b' := false) rfl rfl rfl (fun _ _ => rfl) nofun ?_
  refine DG.off (b' := false) rfl rfl rfl (fun _ _ => rfl) nofun ?_
  refine DG.off (b' := false) rfl rfl rfl (fun _ _ => rfl) nofun ?_
  refine DG.off (b' := false) rfl rfl rfl (fun _ _ => rfl) nofun ?_
  refine DG.off (b' := false) rfl rfl rfl (fun _ _ => rfl) nofun ?_
  refine DG.off (b' := false) rfl rfl rfl (fun _ _ => rfl) nofun ?_
  refine DG.done rfl (by decide) rfl (fun gh9 => ?_)
  refine TO.guard_false (s := 32) (b' := false) rfl rfl nofun ?_
  refine rdx (rd_pick_false (v := .bool _) rfl rfl) ?_
  refine rdx (rd_assign (v := .bool _) rfl) ?_
  refine TO.nil (TQ.then_normal (T.ret ?_))
  refine TQ.value ?_ (res1 Tryz.results39 (Res.tmp (v := .bool _) rfl)) _ (.inl rfl)
  show Value.bool _ = Value.bool _; simp [isOf, h4, h5]
 refine DG.fnxg rfl rfl rfl (fun _ _ => rfl) Tryz.enters11 (c_ref15_Keys) (fun _ _ => rfl) Reads0 ?_
 refine DG.rdg rfl rfl rfl (fun _ _ => rfl) (fun _ _ => rd_load_agg (cs := #[.int _ _, .int _ _, .int _ _, .int _ _, .int _ _, .int _ _, .int _ _, .int _ _, .string _]) Tryz.agg30 rfl (Has.own 1 rfl) rfl rfl) ?_
 refine DG.rdg rfl rfl rfl (fun _ _ => rfl) (fun _ _ => rd_move (v := .slice _ _ _) rfl) ?_
 refine DG.rdg rfl rfl rfl (fun _ _ => rfl) (fun _ _ => rd_move (v := .int _ _) rfl) ?_
 refine DG.rdg rfl rfl rfl (fun _ _ => rfl) (fun _ _ => rd_move (v := .int _ _) rfl) ?_
 refine DG.fnpg rfl rfl rfl (fun _ _ => rfl) Tryz.enters15 (fun ρ => c_wish_Valid (ρ 9).1 (ρ 9).2 10 (keysN 10) (by first | rfl | simp [keysN_len]) (w) _ _ _ l (by first | rfl | simp | omega) (nu) (t) (by first | omega | assumption | (simp only [keysN_len]; omega) | (simp only [List.length_drop, List.length_take, List.length_set, keysN_len]; omega)) (by first | omega | assumption | (simp; done) | (simp only [List.length_drop, List.length_take, List.length_append]; omega))) (fun _ _ => rfl) (fun ρ M hM => (ReadsC (Has.arg 0 rfl) (ReadsC (row_slc' (e := eStr) (xs := (keysN 10)) (fun _ => rfl) (by first | rfl | simp [keysN_len]) (by first | rfl | exact bytesC_flat _) (Has.fromM 9 (hM 9 rfl))) (ReadsC (Has.appR (Has.arg 1 rfl)) Reads0)))) ?_
 refine DG.rdg rfl rfl rfl (fun _ _ => rfl) (fun _ _ => rd_move (v := .int _ _) rfl) ?_
 refine DG.rdg rfl rfl rfl (fun _ _ => rfl) (fun _ _ => rd_eql rfl rfl) ?_
 refine DG.done rfl (by decide) rfl (fun gh7 => ?_)
 refine TO.guard_true (s := 32) rfl rfl ?_
 refine rdx (rd_eqb Tryz.under4 rfl rfl) ?_
 refine rdx (rd_pick_true (v := .bool _) rfl rfl) ?_
 refine rdx (rd_assign (v := .bool _) rfl) ?_
 refine TO.nil (TQ.then_normal (T.ret ?_))
 refine TQ.value ?_ (res1 Tryz.results39 (Res.tmp (v := .bool _) rfl)) _ (.inl rfl)
 show Value.bool _ = Value.bool _; simp [isOf, h4, h5]
end Go.Proofs
end
section
set_option linter.unusedVariables false
set_option linter.unusedSimpArgs false
set_option maxRecDepth 100000
set_option maxHeartbeats 800000
namespace Go.Proofs
open Go.TL
attribute [local irreducible] Go.TL.T Go.TL.TO Go.TL.TQ
theorem Tryz.enters62 : Enters Tryz.prog 62 := fun args w => by kernel_rfl
theorem Tryz.enters63 : Enters Tryz.prog 63 := fun args w => by kernel_rfl
end Go.Proofs
end
section
set_option linter.unusedVariables false
set_option linter.unusedSimpArgs false
set_option maxRecDepth 100000
set_option maxHeartbeats 800000
namespace Go.Proofs
open Go.TL
attribute [local irreducible] Go.TL.T Go.TL.TO Go.TL.TQ
theorem c_wish_Encode (w : Wish) (A : Option Addr) (cap n : Nat) (l : List Proxy) (hn : n = l.length) (hl : l.length ≤ 4611686018427387904) : Cv Tryz.prog 24 #[wishV w, .slice A n cap] [slc proxyL 7 A l] (.tuple #[.string (str (encode w l).1), .int .i64 (encode w l).2]) := by
 subst hn
 refine Ctr.intro Tryz.func24 rfl Tryz.ntmps24 (Nat.le_of_ble_eq_true rfl) fun S0 w0 => ?_
 refine T.seq (T.region ?_)
 refine TO.box (v := .agg #[.int _ _, .int _ _, .int _ _, .int _ _, .int _ _, .int _ _, .int _ _, .int _ _, .string _]) rfl (fun b1 => ?_)
 refine rdx (rd_assign (v := .string _) rfl) ?_
 refine rdx (rd_assign (v := .int _ _) rfl) ?_
 refine TO.nil (TQ.then_normal (T.seq (T.region ?_)))
 refine rdx (rd_assign (v := .func _ _ _) rfl) ?_
 refine TO.nil (TQ.then_normal (T.seq (T.seq (T.region ?_))))
 refine rdx (rd_load_agg (cs := #[.int _ _, .int _ _, .int _ _, .int _ _, .int _ _, .int _ _, .int _ _, .int _ _, .string _]) Tryz.agg30 rfl (Has.own 0 rfl) rfl rfl) ?_
 refine rdx (rd_move (v := .slice _ _ _) rfl) ?_
 refine TO.fn Tryz.enters17 (c_wish_Formed _ _ _ _ l (by first | rfl | simp | omega) (by first | omega | assumption | simp)) rfl (ReadsC (Has.arg 0 rfl) Reads0) ?_
 refine rdx (rd_not rfl) ?_
 refine rdx (rd_move (v := .bool _) rfl) ?_
 refine TO.decide (s := 14) rfl (fun h2 => ?_) (fun h2 => ?_)
 ·try simp only [nrm] at h2
  refine TO.guard_false (s := 14) (b' := true) rfl rfl nofun ?_
  refine TO.guard_false (s := 14) (b' := true) rfl rfl nofun ?_
  refine TO.guard_false (s := 14) (b' := true) rfl rfl nofun ?_
  refine TO.guard_false (s := 14) (b' := true) rfl rfl nofun ?_
  refine rdx (rd_pick_true (v := .bool _) rfl rfl) ?_
  refine rdx (rd_move (v := .bool _) rfl) ?_
  refine TO.guard_false (s := 20) (b' := true) rfl rfl nofun ?_
  refine TO.guard_false (s := 20) (b' := true) rfl rfl nofun ?_
  refine TO.guard_false (s := 20) (b' := true) rfl rfl nofun ?_
  refine rdx (rd_pick_true (v := .bool _) rfl rfl) ?_
  refine TO.nil (TQ.then_normal ?_)
  refine T.cond_true rfl ?_
  refine T.seq (T.region ?_)
  refine rdx (rd_assign (v := .string _) rfl) ?_
  refine rdx (rd_assign (v := .int _ _) rfl) ?_
  refine TO.nil (TQ.then_normal (T.ret (TQ.then_ret ?_)))
  refine TQ.value ?_ (res2 Tryz.results24 (Res.tmp (v := .string _) rfl) (Res.tmp (v := .int _ _) rfl)) _ (.inl rfl)
  rw [encode, if_neg (by rintro ⟨e1, e2, e3⟩; first | omega | simp_all)]; rfl
 try simp only [nrm] at h2
 refine TO.guard_true (s := 14) rfl rfl ?_
 refine rdx (rd_fieldAddr Tryz.field30_6 rfl) ?_
 refine TO.guard_true (s := 14) rfl rfl ?_
 refine rdx (rd_load (v := .string _) Tryz.one9 rfl (Has.own 0 rfl) rfl) ?_
 refine TO.guard_true (s := 14) rfl rfl ?_
 refine rdx (rd_lens' Tryz.under9 rfl) ?_
 refine TO.guard_true (s := 14) rfl rfl ?_
 refine rdx (rd_neq rfl rfl) ?_
 refine rdx (rd_pick_false (v := .bool _) rfl rfl) ?_
 refine rdx (rd_move (v := .bool _) rfl) ?_
 refine TO.decide (s := 20) rfl (fun h3 => ?_) (fun h3 => ?_)
 ·try simp only [nrm] at h3
  refine TO.guard_false (s := 20) (b' := true) rfl rfl nofun ?_
  refine TO.guard_false (s := 20) (b' := true) rfl rfl nofun ?_
  refine TO.guard_false (s := 20) (b' := true) rfl rfl nofun ?_
  refine rdx (rd_pick_true (v := .bool _) rfl rfl) ?_
  refine TO.nil (TQ.then_normal ?_)
  refine T.cond_true rfl ?_
  refine T.seq (T.region ?_)
  refine rdx (rd_assign (v := .string _) rfl) ?_
  refine rdx (rd_assign (v := .int _ _) rfl) ?_
  refine TO.nil (TQ.then_normal (T.ret (TQ.then_ret ?_)))
  refine TQ.value ?_ (res2 Tryz.results24 (Res.tmp (v := .string _) rfl) (Res.tmp (v := .int _ _) rfl)) _ (.inl rfl)
  rw [encode, if_neg (by rintro ⟨e1, e2, e3⟩; first | omega | simp_all)]; rfl
 try simp only [nrm] at h3
 refine TO.guard_true (s := 20) rfl rfl ?_
 refine rdx (rd_move (v := .slice _ _ _) rfl) ?_
 refine TO.guard_true (s := 20) rfl rfl ?_
 refine rdx (rd_move (v := .func _ _ _) rfl) ?_
 refine TO.guard_true (s := 20) rfl rfl ?_
 refine TO.fn Tryz.enters63 (c_ContainsFuncP _ _ _ l (by first | rfl | simp | omega) _ (fun x => !(x.sig.length == 32)) Tryz.enters62 (fun x => c_Encode1 x) (by first | omega | simp)) rfl (ReadsC (Has.arg 0 rfl) Reads0) ?_
 refine rdx (rd_pick_false (v := .bool _) rfl rfl) ?_
 refine TO.nil (TQ.then_normal ?_)
 refine T.cond rfl (fun h4 => ?_) (fun h4 => ?_)
 ·try simp only [nrm] at h4
  refine T.seq (T.region ?_)
  refine rdx (rd_assign (v := .string _) rfl) ?_
  refine rdx (rd_assign (v := .int _ _) rfl) ?_
  refine TO.nil (TQ.then_normal (T.ret (TQ.then_ret ?_)))
  refine TQ.value ?_ (res2 Tryz.results24 (Res.tmp (v := .string _) rfl) (Res.tmp (v := .int _ _) rfl)) _ (.inl rfl)
  rw [encode, if_neg (by rintro ⟨e1, e2, e3⟩; exact absurd (ixInt_neg.2 (sigs_ok.2 e3)) (Int.not_lt.2 h4))]; rfl
 try simp only [nrm] at h4
 refine T.skip (TQ.then_normal (T.seq (T.region ?_)))
 refine TO.alloc Tryz.zero102 (fun b5 => ?_)
 refine TO.tobld (e := 5) ?_
 refine TO.nil (TQ.then_normal (T.seq (T.region ?_)))
 refine rdx (rd_move (v := .slice _ _ _) rfl) ?_
 refine rdx (rd_lensl Tryz.under31 rfl) ?_
 have hso : l.all (fun p => p.sig.length == 32) = true := sigs_ok.1 (ixInt_neg.1 h4)
 have hfo := formedOk_len (w := w) (l := l) (by simp_all)
 have hwt := wishText_len w
 refine TO.buildS (cs := [.int _ _]) Tryz.under110 Tryz.size3 Tryz.zero3 (Nat.le_of_ble_eq_true rfl) rfl (fun b6 => ?_)
 refine TO.front1 ?_
 refine TO.hand Tryz.enters64 rfl (c_numbers _ _ _ _ _ [(l.length : Int)] (by first | rfl | simp) (by simp) (by first | omega | exact Nat.zero_le _)) rfl rfl (ReadsC (own_slc (e := eInt) [(l.length : Int)] rfl (fun _ => rfl) (Has.own 0 rfl) (by simp)) Reads0) (fun _ hx7 => ?_)
 refine TO.bld_eq ((puts [(l.length : Int)] ++ (l.take 0).flatMap (fun p => proxyText p ++ p.sig))) (by simp) ?_
 refine TO.nil (TQ.then_normal (T.seq (T.seq (T.region ?_))))
 refine rdx (rd_move (v := .slice _ _ _) rfl) ?_
 refine rdx (rd_lensl Tryz.under31 rfl) ?_
 refine rdx (rd_move (v := .int _ _) rfl) ?_
 refine TO.nil (TQ.then_normal (T.block ?_))
 refine T.loop1 [2, 7, 29, 30] (fun (k : Nat) => [(31, .int .i64 (k : Nat))]) (fun (k : Nat) => [bld 5 102 b5 (puts [(l.length : Int)] ++ (l.take k).flatMap (fun p => proxyText p ++ p.sig))]) (fun (k : Nat) => k ≤ l.length) (fun (k : Nat) => l.length - k) (0) (Nat.zero_le _) (And.intro (rfl) (trivial)) (fun _ _ h => h) fun k g0 hx0 => ?_
 have hsk := seals_len (all_take hso k)
 have hpk : (l.take k).length ≤ 4 := by rw [List.length_take]; omega
 have hpl := puts_length [(l.length : Int)]
 simp only [List.length_cons, List.length_nil] at hpl
 refine T.seq (T.region ?_)
 refine rdx (rd_lss rfl rfl) ?_
 refine TO.nil (TQ.then_normal (T.seq ?_))
 refine T.cond_ft rfl (fun h8 => ?_) (fun h8 => ?_)
 ·try simp only [nrm] at h8
  refine T.exit (TQ.then_exit (TQ.then_exit (TQ.block_out (TQ.then_normal (T.seq (T.region ?_))))))
  refine rdx (rd_load_agg (cs := #[.int _ _, .int _ _, .int _ _, .int _ _, .int _ _, .int _ _, .int _ _, .int _ _, .string _]) Tryz.agg30 rfl (Has.own 2 rfl) rfl rfl) ?_
  refine TO.hand Tryz.enters54 rfl (c_writer_wish _ _ _ (by first | omega | (simp only [List.length_nil]; omega) | exact Nat.zero_le _ | (simp only [List.length_append]; omega))) rfl rfl Reads0 (fun _ hx12 => ?_)
  refine TO.nil (TQ.then_normal (T.seq (T.region ?_)))
  refine rdx (rd_fieldAddr Tryz.field102_0 rfl) ?_
  refine rdx (rd_fieldAddr Tryz.field30_6 rfl) ?_
  refine rdx (rd_load (v := .string _) Tryz.one9 rfl (Has.own 2 rfl) rfl) ?_
  refine TO.hand Tryz.enters65 rfl (c_WriteString _ _ _ _ (by first | exact Tryz.lies102_100 | exact Tryz.lies100_100) (by first | omega | exact wishText_le _ | exact proxyText_le _ | exact puts3_le _ _ _ | (simp only [List.length_append, List.length_cons, List.length_nil, sha_len, leafOf_len, nodeOf_len, sealOf_len, List.length_take, List.length_drop]; omega) | (rw [keyB_len]; omega))) rfl rfl Reads0 (fun _ hx13 => ?_)
  refine TO.nil (TQ.then_normal (T.seq (T.region ?_)))
  refine rdx (rd_fieldAddr Tryz.field102_0 rfl) ?_
  refine TO.hand Tryz.enters66 rfl (c_String _ _ _ (by rw [List.append_assoc, List.append_assoc]; exact List.append_ne_nil_of_left_ne_nil (puts_ne (by omega) (by omega)) _)) rfl rfl Reads0 (fun _ hx14 => ?_)
  refine rdx (rd_assign (v := .string _) rfl) ?_
  refine rdx (rd_assign (v := .int _ _) rfl) ?_
  refine TO.nil (TQ.then_normal (T.ret ?_))
  refine TQ.value ?_ (res2 Tryz.results24 (Res.tmp (v := .string _) rfl) (Res.tmp (v := .int _ _) rfl)) _ (.inl rfl)
  rw [encode, if_pos ⟨by simp_all, by omega, hso⟩, encText, List.take_of_length_le (by omega)]
 try simp only [nrm] at h8
 refine T.skip (TQ.then_normal (T.seq (T.block (T.seq (T.region ?_)))))
 refine rdx (rd_ix Tryz.under31 Tryz.size40 rfl rfl (Has.arg 0 rfl) rfl (by omega) (by omega)) ?_
 refine rdx (rd_ela (cs := [.int _ _, .int _ _, .int _ _, .int _ _, .int _ _, .int _ _, .string _]) _ 0 Tryz.agg40 rfl (Has.arg 0 rfl) rfl (by omega) (Nat.le_of_ble_eq_true rfl) rfl rfl rfl) ?_
 have hpt := proxyText_len (l[k]'(by omega))
 have hsg := all_at hso (k := k) (by omega)
 refine TO.alloc Tryz.zero40 (fun b9 => ?_)
 refine TO.store0 (cells' := #[.int _ _, .int _ _, .int _ _, .int _ _, .int _ _, .int _ _, .string _]) Tryz.size40 rfl (v := .agg #[.int _ _, .int _ _, .int _ _, .int _ _, .int _ _, .int _ _, .string _]) rfl rfl rfl (Nat.le_of_ble_eq_true rfl) rfl ?_
 refine TO.nil (TQ.then_normal (T.seq (T.region ?_)))
 refine rdx (rd_load_agg (cs := #[.int _ _, .int _ _, .int _ _, .int _ _, .int _ _, .int _ _, .string _]) Tryz.agg40 rfl (Has.own 0 rfl) rfl rfl) ?_
 refine TO.front1 ?_
 refine TO.hand Tryz.enters52 rfl (c_writer_proxy _ _ _ (by first | omega | (simp only [List.length_nil]; omega) | exact Nat.zero_le _ | (simp only [List.length_append]; omega))) rfl rfl Reads0 (fun _ hx10 => ?_)
 refine TO.nil (TQ.then_normal (T.region ?_))
 refine rdx (rd_fieldAddr Tryz.field102_0 rfl) ?_
 refine rdx (rd_fieldAddr Tryz.field40_4 rfl) ?_
 refine rdx (rd_load (v := .string _) Tryz.one9 rfl (Has.own 1 rfl) rfl) ?_
 refine TO.hand Tryz.enters65 rfl (c_WriteString _ _ _ _ (by first | exact Tryz.lies102_100 | exact Tryz.lies100_100) (by first | omega | exact wishText_le _ | exact proxyText_le _ | exact puts3_le _ _ _ | (simp only [List.length_append, List.length_cons, List.length_nil, sha_len, leafOf_len, nodeOf_len, sealOf_len, List.length_take, List.length_drop]; omega) | (rw [keyB_len]; omega))) rfl rfl Reads0 (fun _ hx11 => ?_)
 refine TO.bld_eq ((puts [(l.length : Int)] ++ (l.take (k + 1)).flatMap (fun p => proxyText p ++ p.sig))) (by rw [← take_snoc (by omega), List.flatMap_append]; simp [List.append_assoc]) ?_
 refine TO.nil (TQ.block_normal (TQ.then_normal (T.region ?_)))
 refine rdx (rd_add rfl rfl (w64 (by omega) (by omega))) ?_
 refine rdx (rd_move (v := .int _ _) rfl) ?_
 refine TO.nil ?_
 refine TQ.againk (k + 1) ?_ ?_ (And.intro (rfl) (trivial)) (And.intro (rfl) (And.intro (rfl) (And.intro (rfl) (And.intro (rfl) (trivial))))) (fun _ _ h => h.sel (js := [0, 2, 3]) (by decide))
 ·first | omega | (dsimp only; omega)
 ·first | omega | (dsimp only; omega)
end Go.Proofs
end
section
set_option linter.unusedVariables false
set_option linter.unusedSimpArgs false
set_option maxRecDepth 100000
set_option maxHeartbeats 800000
namespace Go.Proofs
open Go.TL
attribute [local irreducible] Go.TL.T Go.TL.TO Go.TL.TQ
end Go.Proofs
end
section
set_option linter.unusedVariables false
set_option linter.unusedSimpArgs false
set_option maxRecDepth 100000
set_option maxHeartbeats 800000
namespace Go.Proofs
open Go.TL
attribute [local irreducible] Go.TL.T Go.TL.TO Go.TL.TQ
theorem c_ref15_SameProxies (A : Option Addr) (cap n : Nat) (a : List Proxy) (hn : n = a.length) (B : Option Addr) (capb m : Nat) (b : List Proxy) (hm : m = b.length) (ha : a.length ≤ 4611686018427387904) : Cv Tryz.prog 28 #[.slice A n cap, .slice B m capb] [slc proxyL 7 A a, slc proxyL 7 B b] (.bool (decide (a = b))) := by
 subst hn hm
 refine Ctr.intro Tryz.func28 rfl Tryz.ntmps28 (Nat.le_of_ble_eq_true rfl) fun S0 w0 => ?_
 refine T.seq (T.region ?_)
 refine rdx (rd_assign (v := .bool _) rfl) ?_
 refine TO.nil (TQ.then_normal (T.seq (T.seq (T.region ?_))))
 refine rdx (rd_move (v := .slice _ _ _) rfl) ?_
 refine rdx (rd_lensl Tryz.under31 rfl) ?_
 refine rdx (rd_move (v := .slice _ _ _) rfl) ?_
 refine rdx (rd_lensl Tryz.under31 rfl) ?_
 refine rdx (rd_neq rfl rfl) ?_
 refine TO.nil (TQ.then_normal ?_)
 refine T.cond rfl (fun h1 => ?_) (fun h1 => ?_)
 ·try simp only [nrm] at h1
  refine T.seq (T.region ?_)
  refine rdx (rd_assign (v := .bool _) rfl) ?_
  refine TO.nil (TQ.then_normal (T.ret (TQ.then_ret ?_)))
  refine TQ.value ?_ (res1 Tryz.results28 (Res.tmp (v := .bool _) rfl)) _ (.inl rfl)
  rw [decide_eq_false (by intro e; subst e; omega)]
 try simp only [nrm] at h1
 refine T.skip (TQ.then_normal (T.seq (T.seq (T.region ?_))))
 refine rdx (rd_assign (v := .int _ _) rfl) ?_
 refine TO.nil (TQ.then_normal (T.block ?_))
 refine T.loop1 [0, 1] (fun (k : Nat) => [(5, .int .i64 (k : Nat))]) (fun (k : Nat) => []) (fun (k : Nat) => k ≤ a.length ∧ a.take k = b.take k) (fun (k : Nat) => a.length - k) (0) (⟨Nat.zero_le _, rfl⟩) (And.intro (rfl) (trivial)) (fun _ _ h => h) fun k g0 hx0 => ?_
 obtain ⟨hk, hk0⟩ := hx0
 refine T.seq (T.seq (T.region ?_))
 refine rdx (rd_move (v := .int _ _) rfl) ?_
 refine rdx (rd_move (v := .slice _ _ _) rfl) ?_
 refine rdx (rd_lensl Tryz.under31 rfl) ?_
 refine rdx (rd_lss rfl rfl) ?_
 refine TO.nil (TQ.then_normal ?_)
 refine T.cond_ft rfl (fun h2 => ?_) (fun h2 => ?_)
 ·try simp only [nrm] at h2
  refine T.exit (TQ.then_exit (TQ.then_exit (TQ.block_out (TQ.then_normal (T.seq (T.region ?_))))))
  refine rdx (rd_assign (v := .bool _) rfl) ?_
  refine TO.nil (TQ.then_normal (T.ret ?_))
  refine TQ.value ?_ (res1 Tryz.results28 (Res.tmp (v := .bool _) rfl)) _ (.inl rfl)
  rw [decide_eq_true (by have h1 := hk0; rw [List.take_of_length_le (by omega), List.take_of_length_le (by omega)] at h1; exact h1)]
 try simp only [nrm] at h2
 refine T.skip (TQ.then_normal (T.seq (T.block (T.seq ?_))))
 refine T.drawq Tryz.mixes 8 [(17, 0), (18, 1), (19, 2), (20, 3), (21, 4), (22, 5), (23, 6), (24, 7)] [0, 0, 3, 7, 0, 0, 48, 112, 255] (by kernel_rfl) ?_
 refine DQ.rd rfl rfl (fun _ => rd_move (v := .slice _ _ _) rfl) ?_
 refine DQ.rd rfl rfl (fun _ => rd_move (v := .int _ _) rfl) ?_
 refine DQ.rd rfl rfl (fun _ => rd_ix Tryz.under31 Tryz.size40 rfl rfl (Has.arg 0 rfl) rfl (by omega) (by omega)) ?_
 refine DQ.rd rfl rfl (fun _ => rd_ela (cs := [.int _ _, .int _ _, .int _ _, .int _ _, .int _ _, .int _ _, .string _]) _ 0 Tryz.agg40 rfl (Has.arg 0 rfl) rfl (by omega) (Nat.le_of_ble_eq_true rfl) rfl rfl rfl) ?_
 refine DQ.rd rfl rfl (fun _ => rd_move (v := .slice _ _ _) rfl) ?_
 refine DQ.rd rfl rfl (fun _ => rd_move (v := .int _ _) rfl) ?_
 refine DQ.rd rfl rfl (fun _ => rd_ix Tryz.under31 Tryz.size40 rfl rfl (Has.arg 1 rfl) rfl (by omega) (by omega)) ?_
 refine DQ.rd rfl rfl (fun _ => rd_ela (cs := [.int _ _, .int _ _, .int _ _, .int _ _, .int _ _, .int _ _, .string _]) _ 0 Tryz.agg40 rfl (Has.arg 1 rfl) rfl (by omega) (Nat.le_of_ble_eq_true rfl) rfl rfl rfl) ?_
 refine DQ.done rfl ?_
 refine rdx (rd_nep Tryz.eqty (p := (a[k]'(by omega))) (q := (b[k]'(by omega))) rfl rfl) ?_
 refine TO.nil (TQ.then_normal ?_)
 refine T.cond_ft rfl (fun h3 => ?_) (fun h3 => ?_)
 ·try simp only [nrm] at h3
  refine T.skip (TQ.block_normal (TQ.then_normal (T.region ?_)))
  refine rdx (rd_move (v := .int _ _) rfl) ?_
  refine rdx (rd_add rfl rfl (w64 (by omega) (by omega))) ?_
  refine rdx (rd_assign (v := .int _ _) rfl) ?_
  refine TO.nil ?_
  refine TQ.againk (k + 1) ?_ ?_ (And.intro (rfl) (trivial)) (And.intro (rfl) (And.intro (rfl) (trivial))) (fun _ _ h => h)
  ·exact ⟨by first | omega | (dsimp only; omega), by rw [← take_snoc (by omega), ← take_snoc (by omega), hk0]; simp_all⟩
  ·first | omega | (dsimp only; omega)
 try simp only [nrm] at h3
 refine T.seq (T.region ?_)
 refine rdx (rd_assign (v := .bool _) rfl) ?_
 refine TO.nil (TQ.then_normal (T.ret (TQ.block_ret (TQ.then_ret (TQ.then_ret (TQ.block_ret (TQ.then_ret ?_)))))))
 refine TQ.value ?_ (res1 Tryz.results28 (Res.tmp (v := .bool _) rfl)) _ (.inl rfl)
 rw [decide_eq_false (by intro e; subst e; simp_all)]
end Go.Proofs
end
section
set_option linter.unusedVariables false
set_option linter.unusedSimpArgs false
set_option maxRecDepth 100000
set_option maxHeartbeats 800000
namespace Go.Proofs
open Go.TL
attribute [local irreducible] Go.TL.T Go.TL.TO Go.TL.TQ
theorem c_law15_sane  : Cv Tryz.prog 6 #[] [glob 0 roundC 162] (.bool true) := by
 refine Ctr.intro Tryz.func6 rfl Tryz.ntmps6 (Nat.le_of_ble_eq_true rfl) fun S0 w0 => ?_
 refine T.seq (T.region ?_)
 refine rdx (rd_assign (v := .bool _) rfl) ?_
 refine TO.nil (TQ.then_normal (T.seq (T.region ?_)))
 refine TO.fn Tryz.enters37 (c_law15_wished _) rfl (ReadsC (Has.arg 0 rfl) Reads0) ?_
 refine TO.alloc Tryz.zero30 (fun b1 => ?_)
 refine TO.store0 (cells' := #[.int _ _, .int _ _, .int _ _, .int _ _, .int _ _, .int _ _, .int _ _, .int _ _, .string _]) Tryz.size30 rfl (v := .agg #[.int _ _, .int _ _, .int _ _, .int _ _, .int _ _, .int _ _, .int _ _, .int _ _, .string _]) rfl rfl rfl (Nat.le_of_ble_eq_true rfl) rfl ?_
 refine TO.nil (TQ.then_normal (T.seq (T.region ?_)))
 refine TO.fn Tryz.enters38 (c_law15_granted _) rfl (ReadsC (Has.arg 0 rfl) Reads0) ?_
 refine TO.buildS (cs := [.int _ _, .int _ _, .int _ _, .int _ _, .int _ _, .int _ _, .string _]) Tryz.under31 Tryz.size40 Tryz.zero40 (Nat.le_of_ble_eq_true rfl) rfl (fun b2 => ?_)
 refine rdx (rd_assign (v := .slice _ _ _) rfl) ?_
 refine TO.nil (TQ.then_normal (T.seq (T.region ?_)))
 refine rdx (rd_load_agg (cs := #[.int _ _, .int _ _, .int _ _, .int _ _, .int _ _, .int _ _, .int _ _, .int _ _, .string _]) Tryz.agg30 rfl (Has.own 1 rfl) rfl rfl) ?_
 refine TO.alloc Tryz.zero30 (fun b3 => ?_)
 refine TO.store0 (cells' := #[.int _ _, .int _ _, .int _ _, .int _ _, .int _ _, .int _ _, .int _ _, .int _ _, .string _]) Tryz.size30 rfl (v := .agg #[.int _ _, .int _ _, .int _ _, .int _ _, .int _ _, .int _ _, .int _ _, .int _ _, .string _]) rfl rfl rfl (Nat.le_of_ble_eq_true rfl) rfl ?_
 refine TO.nil (TQ.then_normal (T.seq (T.region ?_)))
 refine rdx (rd_fieldAddr Tryz.field30_3 rfl) ?_
 refine TO.store0 (cells' := #[.int _ _, .int _ _, .int _ _, .int _ _, .int _ _, .int _ _, .int _ _, .int _ _, .string _]) Tryz.size3 rfl (v := .int _ _) rfl rfl rfl (Nat.le_of_ble_eq_true rfl) rfl ?_
 refine TO.nil (TQ.then_normal (T.seq (T.region ?_)))
 refine TO.fn Tryz.enters38 (c_law15_granted _) rfl (ReadsC (Has.arg 0 rfl) Reads0) ?_
 refine TO.buildS (cs := [.int _ _, .int _ _, .int _ _, .int _ _, .int _ _, .int _ _, .string _]) Tryz.under31 Tryz.size40 Tryz.zero40 (Nat.le_of_ble_eq_true rfl) rfl (fun b4 => ?_)
 refine rdx (rd_assign (v := .slice _ _ _) rfl) ?_
 refine TO.nil (TQ.then_normal (T.seq (T.region ?_)))
 refine rdx (rd_move (v := .slice _ _ _) rfl) ?_
 refine rdx (rd_indexAddr (k := 0) Tryz.under31 Tryz.size40 rfl rfl rfl (by omega)) ?_
 refine rdx (rd_fieldAddr Tryz.field40_3 rfl) ?_
 refine rdx (rd_fieldAddr Tryz.field28_1 rfl) ?_
 refine TO.store0 (cells' := #[.int _ _, .int _ _, .int _ _, .int _ _, .int _ _, .int _ _, .string _]) Tryz.size3 rfl (v := .int _ _) rfl rfl rfl (Nat.le_of_ble_eq_true rfl) rfl ?_
 refine TO.nil (TQ.then_normal (T.seq (T.region ?_)))
 refine TO.fn Tryz.enters19 (c_ref15_Key _) rfl Reads0 ?_
 refine TO.fn Tryz.enters29 (c_wish_Account (keyB 3) (1100) (1) (by first | (rw [keyB_len]; omega) | omega | assumption)) rfl (ReadsC (Has.arg 0 rfl) Reads0) ?_
 refine rdx (rd_move (v := .tuple _) rfl) ?_
 refine rdx (rd_extract (v := .string _) (vs := _) rfl rfl) ?_
 refine rdx (rd_extract (v := .int _ _) (vs := _) rfl rfl) ?_
 refine rdx (rd_assign (v := .string _) rfl) ?_
 refine rdx (rd_assign (v := .int _ _) rfl) ?_
 refine TO.nil (TQ.then_normal (T.seq (T.region ?_)))
 refine rdx (rd_load_agg (cs := #[.int _ _, .int _ _, .int _ _, .int _ _, .int _ _, .int _ _, .int _ _, .int _ _, .string _]) Tryz.agg30 rfl (Has.own 3 rfl) rfl rfl) ?_
 refine rdx (rd_move (v := .slice _ _ _) rfl) ?_
 refine TO.fn Tryz.enters24 (c_wish_Encode (sw 200) _ _ _ [sp 500] (by first | rfl | simp | omega) (by first | omega | assumption | simp)) rfl (ReadsC (own_slc (e := proxyL) (sz := 7) [sp 500] rfl (fun _ => rfl) (Has.own 2 rfl) (by simp)) Reads0) ?_
 refine rdx (rd_move (v := .tuple _) rfl) ?_
 refine rdx (rd_extract (v := .string _) (vs := _) rfl rfl) ?_
 refine rdx (rd_extract (v := .int _ _) (vs := _) rfl rfl) ?_
 refine rdx (rd_assign (v := .string _) rfl) ?_
 refine rdx (rd_assign (v := .int _ _) rfl) ?_
 refine TO.nil (TQ.then_normal (T.seq (T.region ?_)))
 refine rdx (rd_move (v := .string _) rfl) ?_
 refine TO.fnx Tryz.enters26 (c_wish_Decode ((encode (sw 200) [sp 500]).1) (by first | omega | assumption | exact sane_e2)) rfl Reads0 (fun ⟨A5, cap6⟩ hx7 => ?_)
 rw [sane_d]
 refine rdx (rd_move (v := .tuple _) rfl) ?_
 refine rdx (rd_extract (v := .agg _) (vs := _) rfl rfl) ?_
 refine rdx (rd_extract (v := .slice _ _ _) (vs := _) rfl rfl) ?_
 refine rdx (rd_extract (v := .int _ _) (vs := _) rfl rfl) ?_
 refine TO.alloc Tryz.zero30 (fun b9 => ?_)
 refine TO.store0 (cells' := #[.int _ _, .int _ _, .int _ _, .int _ _, .int _ _, .int _ _, .int _ _, .int _ _, .string _]) Tryz.size30 rfl (v := .agg #[.int _ _, .int _ _, .int _ _, .int _ _, .int _ _, .int _ _, .int _ _, .int _ _, .string _]) rfl rfl rfl (Nat.le_of_ble_eq_true rfl) rfl ?_
 refine rdx (rd_assign (v := .slice _ _ _) rfl) ?_
 refine rdx (rd_assign (v := .int _ _) rfl) ?_
 refine TO.nil (TQ.then_normal (T.seq (T.seq (T.region ?_))))
 refine rdx (rd_move (v := .int _ _) rfl) ?_
 refine rdx (rd_neq_false rfl rfl sane_a1) ?_
 refine rdx (rd_move (v := .bool _) rfl) ?_
 refine TO.guard_true (s := 44) rfl rfl ?_
 refine rdx (rd_move (v := .int _ _) rfl) ?_
 refine TO.guard_true (s := 44) rfl rfl ?_
 refine rdx (rd_neq_false rfl rfl sane_e1) ?_
 refine rdx (rd_pick_false (v := .bool _) rfl rfl) ?_
 refine rdx (rd_move (v := .bool _) rfl) ?_
 refine TO.guard_true (s := 48) rfl rfl ?_
 refine rdx (rd_move (v := .int _ _) rfl) ?_
 refine TO.guard_true (s := 48) rfl rfl ?_
 refine rdx (rd_neq_false rfl rfl rfl) ?_
 refine rdx (rd_pick_false (v := .bool _) rfl rfl) ?_
 refine rdx (rd_move (v := .bool _) rfl) ?_
 refine TO.guard_true (s := 52) rfl rfl ?_
 refine rdx (rd_fieldAddr Tryz.field30_6 rfl) ?_
 refine TO.guard_true (s := 52) rfl rfl ?_
 refine rdx (rd_load (v := .string _) Tryz.one9 rfl (Has.own 5 rfl) rfl) ?_
 refine TO.guard_true (s := 52) rfl rfl ?_
 refine rdx (rd_lens' Tryz.under9 rfl) ?_
 refine TO.guard_true (s := 52) rfl rfl ?_
 refine rdx (rd_neq_false rfl rfl sane_s1) ?_
 refine rdx (rd_pick_false (v := .bool _) rfl rfl) ?_
 refine rdx (rd_move (v := .bool _) rfl) ?_
 refine TO.guard_true (s := 58) rfl rfl ?_
 refine rdx (rd_move (v := .slice _ _ _) rfl) ?_
 refine TO.guard_true (s := 58) rfl rfl ?_
 refine rdx (rd_indexAddr (k := 0) Tryz.under31 Tryz.size40 rfl rfl rfl (by omega)) ?_
 refine TO.guard_true (s := 58) rfl rfl ?_
 refine rdx (rd_fieldAddr Tryz.field40_4 rfl) ?_
 refine TO.guard_true (s := 58) rfl rfl ?_
 refine rdx (rd_load (v := .string _) Tryz.one9 rfl (Has.own 4 rfl) rfl) ?_
 refine TO.guard_true (s := 58) rfl rfl ?_
 refine rdx (rd_lens' Tryz.under9 rfl) ?_
 refine TO.guard_true (s := 58) rfl rfl ?_
 refine rdx (rd_neq_false rfl rfl sane_s2) ?_
 refine rdx (rd_pick_false (v := .bool _) rfl rfl) ?_
 refine rdx (rd_move (v := .bool _) rfl) ?_
 refine TO.guard_true (s := 66) rfl rfl ?_
 refine rdx (rd_move (v := .string _) rfl) ?_
 refine TO.guard_true (s := 66) rfl rfl ?_
 refine rdx (rd_lens' Tryz.under9 rfl) ?_
 refine TO.guard_true (s := 66) rfl rfl ?_
 refine rdx (rd_neq_false rfl rfl sane_a2) ?_
 refine rdx (rd_pick_false (v := .bool _) rfl rfl) ?_
 refine TO.nil (TQ.then_normal ?_)
 refine T.cond_false rfl ?_
 refine T.skip (TQ.then_normal (T.seq (T.region ?_)))
 refine rdx (rd_load_agg (cs := #[.int _ _, .int _ _, .int _ _, .int _ _, .int _ _, .int _ _, .int _ _, .int _ _, .string _]) Tryz.agg30 rfl (Has.own 5 rfl) rfl rfl) ?_
 refine rdx (rd_move (v := .slice _ _ _) rfl) ?_
 refine TO.fn Tryz.enters39 (cv_b (c_law15_is (sw 200) _ _ _ [sp 500] (by first | rfl | simp | omega) (1100) (150) (0) (-1) (by first | omega | assumption | simp)) (isOf_of_why sane_w1)) rfl (ReadsC (Has.arg 0 rfl) (ReadsC (own_slc (e := proxyL) (sz := 7) [sp 500] rfl (fun _ => rfl) (Has.own 4 rfl) (by simp)) Reads0)) ?_
 refine rdx (rd_move (v := .bool _) rfl) ?_
 refine TO.guard_true (s := 74) rfl rfl ?_
 refine rdx (rd_load_agg (cs := #[.int _ _, .int _ _, .int _ _, .int _ _, .int _ _, .int _ _, .int _ _, .int _ _, .string _]) Tryz.agg30 rfl (Has.own 5 rfl) rfl rfl) ?_
 refine TO.guard_true (s := 74) rfl rfl ?_
 refine rdx (rd_move (v := .slice _ _ _) rfl) ?_
 refine TO.guard_true (s := 74) rfl rfl ?_
 refine TO.fn Tryz.enters39 (cv_b (c_law15_is (sw 200) _ _ _ [sp 500] (by first | rfl | simp | omega) (1199) (199) (0) (-1) (by first | omega | assumption | simp)) (isOf_of_why sane_w2)) rfl (ReadsC (Has.arg 0 rfl) (ReadsC (own_slc (e := proxyL) (sz := 7) [sp 500] rfl (fun _ => rfl) (Has.own 4 rfl) (by simp)) Reads0)) ?_
 refine rdx (rd_pick_true (v := .bool _) rfl rfl) ?_
 refine rdx (rd_assign (v := .bool _) rfl) ?_
 refine TO.nil (TQ.then_normal (T.seq (T.region ?_)))
 refine rdx (rd_load_agg (cs := #[.int _ _, .int _ _, .int _ _, .int _ _, .int _ _, .int _ _, .int _ _, .int _ _, .string _]) Tryz.agg30 rfl (Has.own 5 rfl) rfl rfl) ?_
 refine rdx (rd_move (v := .slice _ _ _) rfl) ?_
 refine TO.fn Tryz.enters39 (cv_b (c_law15_is (sw 200) _ _ _ [sp 500] (by first | rfl | simp | omega) (1200) (150) (3) (-1) (by first | omega | assumption | simp)) (isOf_of_why sane_w3)) rfl (ReadsC (Has.arg 0 rfl) (ReadsC (own_slc (e := proxyL) (sz := 7) [sp 500] rfl (fun _ => rfl) (Has.own 4 rfl) (by simp)) Reads0)) ?_
 refine rdx (rd_move (v := .bool _) rfl) ?_
 refine TO.guard_true (s := 82) rfl rfl ?_
 refine rdx (rd_load_agg (cs := #[.int _ _, .int _ _, .int _ _, .int _ _, .int _ _, .int _ _, .int _ _, .int _ _, .string _]) Tryz.agg30 rfl (Has.own 5 rfl) rfl rfl) ?_
 refine TO.guard_true (s := 82) rfl rfl ?_
 refine rdx (rd_move (v := .slice _ _ _) rfl) ?_
 refine TO.guard_true (s := 82) rfl rfl ?_
 refine TO.fn Tryz.enters39 (cv_b (c_law15_is (sw 200) _ _ _ [sp 500] (by first | rfl | simp | omega) (1100) (200) (2) (-1) (by first | omega | assumption | simp)) (isOf_of_why sane_w4)) rfl (ReadsC (Has.arg 0 rfl) (ReadsC (own_slc (e := proxyL) (sz := 7) [sp 500] rfl (fun _ => rfl) (Has.own 4 rfl) (by simp)) Reads0)) ?_
 refine rdx (rd_pick_true (v := .bool _) rfl rfl) ?_
 refine rdx (rd_move (v := .bool _) rfl) ?_
 refine TO.guard_true (s := 87) rfl rfl ?_
 refine rdx (rd_load_agg (cs := #[.int _ _, .int _ _, .int _ _, .int _ _, .int _ _, .int _ _, .int _ _, .int _ _, .string _]) Tryz.agg30 rfl (Has.own 5 rfl) rfl rfl) ?_
 refine TO.guard_true (s := 87) rfl rfl ?_
 refine rdx (rd_move (v := .slice _ _ _) rfl) ?_
 refine TO.guard_true (s := 87) rfl rfl ?_
 refine TO.fn Tryz.enters39 (cv_b (c_law15_is (sw 200) _ _ _ [sp 500] (by first | rfl | simp | omega) (1200) (200) (2) (-1) (by first | omega | assumption | simp)) (isOf_of_why sane_w5)) rfl (ReadsC (Has.arg 0 rfl) (ReadsC (own_slc (e := proxyL) (sz := 7) [sp 500] rfl (fun _ => rfl) (Has.own 4 rfl) (by simp)) Reads0)) ?_
 refine rdx (rd_pick_true (v := .bool _) rfl rfl) ?_
 refine rdx (rd_move (v := .bool _) rfl) ?_
 refine TO.guard_true (s := 92) rfl rfl ?_
 refine rdx (rd_load_agg (cs := #[.int _ _, .int _ _, .int _ _, .int _ _, .int _ _, .int _ _, .int _ _, .int _ _, .string _]) Tryz.agg30 rfl (Has.own 5 rfl) rfl rfl) ?_
 refine TO.guard_true (s := 92) rfl rfl ?_
 refine TO.fn Tryz.enters39 (cv_b (c_law15_is (sw 200) _ _ _ [] (by first | rfl | simp | omega) (1100) (150) (4) (-1) (by first | omega | assumption | simp)) (isOf_of_why sane_w6)) rfl (ReadsC (Has.arg 0 rfl) (ReadsC Has.nilslc Reads0)) ?_
 refine rdx (rd_pick_true (v := .bool _) rfl rfl) ?_
 refine rdx (rd_move (v := .bool _) rfl) ?_
 refine TO.guard_true (s := 96) rfl rfl ?_
 refine TO.fn Tryz.enters37 (c_law15_wished _) rfl (ReadsC (Has.arg 0 rfl) Reads0) ?_
 refine TO.guard_true (s := 96) rfl rfl ?_
 refine rdx (rd_move (v := .slice _ _ _) rfl) ?_
 refine TO.guard_true (s := 96) rfl rfl ?_
 refine TO.fn Tryz.enters39 (cv_b (c_law15_is (sw 501) _ _ _ [sp 500] (by first | rfl | simp | omega) (1100) (150) (5) (-1) (by first | omega | assumption | simp)) (isOf_of_why sane_w7)) rfl (ReadsC (Has.arg 0 rfl) (ReadsC (own_slc (e := proxyL) (sz := 7) [sp 500] rfl (fun _ => rfl) (Has.own 4 rfl) (by simp)) Reads0)) ?_
 refine rdx (rd_pick_true (v := .bool _) rfl rfl) ?_
 refine rdx (rd_move (v := .bool _) rfl) ?_
 refine TO.guard_true (s := 101) rfl rfl ?_
 refine rdx (rd_load_agg (cs := #[.int _ _, .int _ _, .int _ _, .int _ _, .int _ _, .int _ _, .int _ _, .int _ _, .string _]) Tryz.agg30 rfl (Has.own 3 rfl) rfl rfl) ?_
 refine TO.guard_true (s := 101) rfl rfl ?_
 refine rdx (rd_move (v := .slice _ _ _) rfl) ?_
 refine TO.guard_true (s := 101) rfl rfl ?_
 refine TO.fn Tryz.enters39 (cv_b (c_law15_is (swx) _ _ _ [sp 500] (by first | rfl | simp | omega) (1100) (150) (6) (-1) (by first | omega | assumption | simp)) (isOf_of_why sane_w8)) rfl (ReadsC (Has.arg 0 rfl) (ReadsC (own_slc (e := proxyL) (sz := 7) [sp 500] rfl (fun _ => rfl) (Has.own 4 rfl) (by simp)) Reads0)) ?_
 refine rdx (rd_pick_true (v := .bool _) rfl rfl) ?_
 refine rdx (rd_move (v := .bool _) rfl) ?_
 refine TO.guard_true (s := 106) rfl rfl ?_
 refine rdx (rd_load_agg (cs := #[.int _ _, .int _ _, .int _ _, .int _ _, .int _ _, .int _ _, .int _ _, .int _ _, .string _]) Tryz.agg30 rfl (Has.own 5 rfl) rfl rfl) ?_
 refine TO.guard_true (s := 106) rfl rfl ?_
 refine rdx (rd_move (v := .slice _ _ _) rfl) ?_
 refine TO.guard_true (s := 106) rfl rfl ?_
 refine TO.fn Tryz.enters39 (cv_b (c_law15_is (sw 200) _ _ _ [spx] (by first | rfl | simp | omega) (1100) (150) (6) (0) (by first | omega | assumption | simp)) (isOf_of_why sane_w9)) rfl (ReadsC (Has.arg 0 rfl) (ReadsC (own_slc (e := proxyL) (sz := 7) [spx] rfl (fun _ => rfl) (Has.own 2 rfl) (by simp)) Reads0)) ?_
 refine rdx (rd_pick_true (v := .bool _) rfl rfl) ?_
 refine rdx (rd_move (v := .bool _) rfl) ?_
 refine TO.guard_true (s := 111) rfl rfl ?_
 refine rdx (rd_build (cs := [.int _ _, .int _ _, .int _ _, .int _ _, .int _ _, .int _ _, .int _ _, .int _ _, .string _]) Tryz.places30 Tryz.zero30 rfl rfl) ?_
 refine TO.guard_true (s := 111) rfl rfl ?_
 refine TO.fn Tryz.enters39 (cv_b (c_law15_is (wish0) _ _ _ [] (by first | rfl | simp | omega) (0) (0) (1) (-1) (by first | omega | assumption | simp)) (isOf_of_why sane_w10)) rfl (ReadsC (Has.arg 0 rfl) (ReadsC Has.nilslc Reads0)) ?_
 refine rdx (rd_pick_true (v := .bool _) rfl rfl) ?_
 refine rdx (rd_assign (v := .bool _) rfl) ?_
 refine TO.nil (TQ.then_normal (T.seq (T.region ?_)))
 refine rdx (rd_move (v := .bool _) rfl) ?_
 refine rdx (rd_move (v := .bool _) rfl) ?_
 refine TO.guard_true (s := 116) rfl rfl ?_
 refine rdx (rd_move (v := .bool _) rfl) ?_
 refine rdx (rd_pick_true (v := .bool _) rfl rfl) ?_
 refine rdx (rd_move (v := .bool _) rfl) ?_
 refine TO.guard_true (s := 119) rfl rfl ?_
 refine rdx (rd_load_agg (cs := #[.int _ _, .int _ _, .int _ _, .int _ _, .int _ _, .int _ _, .int _ _, .int _ _, .string _]) Tryz.agg30 rfl (Has.own 0 rfl) rfl rfl) ?_
 refine TO.guard_true (s := 119) rfl rfl ?_
 refine rdx (rd_load_agg (cs := #[.int _ _, .int _ _, .int _ _, .int _ _, .int _ _, .int _ _, .int _ _, .int _ _, .string _]) Tryz.agg30 rfl (Has.own 5 rfl) rfl rfl) ?_
 refine TO.guard_true (s := 119) rfl rfl ?_
 refine rdx (rd_eqw_true Tryz.eqty (p := sw 200) (q := sw 200) rfl rfl rfl) ?_
 refine rdx (rd_pick_true (v := .bool _) rfl rfl) ?_
 refine rdx (rd_move (v := .bool _) rfl) ?_
 refine TO.guard_true (s := 124) rfl rfl ?_
 refine rdx (rd_move (v := .slice _ _ _) rfl) ?_
 refine TO.guard_true (s := 124) rfl rfl ?_
 refine rdx (rd_move (v := .slice _ _ _) rfl) ?_
 refine TO.guard_true (s := 124) rfl rfl ?_
 refine TO.fn Tryz.enters28 (cv_b (c_ref15_SameProxies _ _ _ [sp 500] (by first | rfl | simp | omega) _ _ _ [sp 500] (by first | rfl | simp | omega) (by first | omega | assumption | simp)) (decide_eq_true rfl)) rfl (ReadsC (row_slc' (e := proxyL) (xs := [sp 500]) (fun _ => rfl) (rfl) (rfl) (Has.own 1 rfl)) (ReadsC (own_slc (e := proxyL) (sz := 7) [sp 500] rfl (fun _ => rfl) (Has.own 4 rfl) (by simp)) Reads0)) ?_
 refine rdx (rd_pick_true (v := .bool _) rfl rfl) ?_
 refine rdx (rd_move (v := .bool _) rfl) ?_
 refine TO.guard_true (s := 129) rfl rfl ?_
 refine TO.fn Tryz.enters19 (c_ref15_Key _) rfl Reads0 ?_
 refine TO.guard_true (s := 129) rfl rfl ?_
 refine rdx (rd_move (v := .string _) rfl) ?_
 refine TO.guard_true (s := 129) rfl rfl ?_
 refine TO.fn Tryz.enters31 (cv_b (c_wish_Checks (keyB 3) (1100) (1) ((account (keyB 3) 1100 1).1) (by first | (rw [keyB_len]; omega) | omega | assumption)) (sane_c1)) rfl (ReadsC (Has.arg 0 rfl) Reads0) ?_
 refine rdx (rd_pick_true (v := .bool _) rfl rfl) ?_
 refine rdx (rd_move (v := .bool _) rfl) ?_
 refine TO.guard_true (s := 134) rfl rfl ?_
 refine TO.fn Tryz.enters19 (c_ref15_Key _) rfl Reads0 ?_
 refine TO.guard_true (s := 134) rfl rfl ?_
 refine rdx (rd_move (v := .string _) rfl) ?_
 refine TO.guard_true (s := 134) rfl rfl ?_
 refine TO.fn Tryz.enters31 (cv_b (c_wish_Checks (keyB 4) (1100) (1) ((account (keyB 3) 1100 1).1) (by first | (rw [keyB_len]; omega) | omega | assumption)) (sane_c2)) rfl (ReadsC (Has.arg 0 rfl) Reads0) ?_
 refine TO.guard_true (s := 134) rfl rfl ?_
 refine rdx (rd_not rfl) ?_
 refine rdx (rd_pick_true (v := .bool _) rfl rfl) ?_
 refine rdx (rd_move (v := .bool _) rfl) ?_
 refine TO.guard_true (s := 140) rfl rfl ?_
 refine rdx (rd_load_agg (cs := #[.int _ _, .int _ _, .int _ _, .int _ _, .int _ _, .int _ _, .int _ _, .int _ _, .string _]) Tryz.agg30 rfl (Has.own 5 rfl) rfl rfl) ?_
 refine TO.guard_true (s := 140) rfl rfl ?_
 refine rdx (rd_move (v := .slice _ _ _) rfl) ?_
 refine TO.guard_true (s := 140) rfl rfl ?_
 refine TO.fn Tryz.enters17 (cv_b (c_wish_Formed (sw 200) _ _ _ [sp 500] (by first | rfl | simp | omega) (by first | omega | assumption | simp)) (sane_f1)) rfl (ReadsC (own_slc (e := proxyL) (sz := 7) [sp 500] rfl (fun _ => rfl) (Has.own 4 rfl) (by simp)) Reads0) ?_
 refine rdx (rd_pick_true (v := .bool _) rfl rfl) ?_
 refine rdx (rd_move (v := .bool _) rfl) ?_
 refine TO.guard_true (s := 145) rfl rfl ?_
 refine rdx (rd_build (cs := [.int _ _, .int _ _, .int _ _, .int _ _, .int _ _, .int _ _, .int _ _, .int _ _, .string _]) Tryz.places30 Tryz.zero30 rfl rfl) ?_
 refine TO.guard_true (s := 145) rfl rfl ?_
 refine TO.fn Tryz.enters17 (cv_b (c_wish_Formed (wish0) _ _ _ [] (by first | rfl | simp | omega) (by first | omega | assumption | simp)) (sane_f2)) rfl (ReadsC Has.nilslc Reads0) ?_
 refine TO.guard_true (s := 145) rfl rfl ?_
 refine rdx (rd_not rfl) ?_
 refine rdx (rd_pick_true (v := .bool _) rfl rfl) ?_
 refine rdx (rd_assign (v := .bool _) rfl) ?_
 refine TO.nil (TQ.then_normal (T.ret ?_))
 refine TQ.value ?_ (res1 Tryz.results6 (Res.tmp (v := .bool _) rfl)) _ (.inl rfl)
 rfl
end Go.Proofs
end
section
set_option linter.unusedVariables false
set_option linter.unusedSimpArgs false
set_option maxRecDepth 100000
set_option maxHeartbeats 800000
namespace Go.Proofs
open Go.TL
attribute [local irreducible] Go.TL.T Go.TL.TO Go.TL.TQ
theorem Tryz.agg77 : TyAgg Tryz.prog 77 5 := ⟨fun w => by kernel_rfl, fun w => by kernel_rfl⟩
theorem Tryz.field25_0 : TyField Tryz.prog 25 0 0 := fun a w => by kernel_rfl
theorem Tryz.field25_1 : TyField Tryz.prog 25 1 1 := fun a w => by kernel_rfl
theorem Tryz.field25_2 : TyField Tryz.prog 25 2 3 := fun a w => by kernel_rfl
theorem Tryz.field25_3 : TyField Tryz.prog 25 3 5 := fun a w => by kernel_rfl
theorem Tryz.field25_4 : TyField Tryz.prog 25 4 6 := fun a w => by kernel_rfl
theorem Tryz.field25_5 : TyField Tryz.prog 25 5 7 := fun a w => by kernel_rfl
theorem Tryz.one23 : TyOne Tryz.prog 23 := ⟨fun w => by kernel_rfl, fun w => by kernel_rfl⟩
theorem Tryz.size27 : ∀ w, (sizeOf 27).run Tryz.prog w = .ok 2 w := fun w => by kernel_rfl
theorem Tryz.size28 : ∀ w, (sizeOf 28).run Tryz.prog w = .ok 2 w := fun w => by kernel_rfl
theorem Tryz.size77 : ∀ w, (sizeOf 77).run Tryz.prog w = .ok 5 w := fun w => by kernel_rfl
theorem Tryz.under23 : Tryz.prog.underlying 23 = some (.slice 77) := by kernel_rfl
theorem Tryz.under77 : Tryz.prog.underlying 77 = some (.array 5 3) := by kernel_rfl
theorem Tryz.zero77 : TyZero Tryz.prog 77 (.agg #[.int .i64 0, .int .i64 0, .int .i64 0, .int .i64 0, .int .i64 0]) := fun w => by kernel_rfl
theorem Tryz.enters21 : Enters Tryz.prog 21 := fun args w => by kernel_rfl
theorem Tryz.enters23 : Enters Tryz.prog 23 := fun args w => by kernel_rfl
theorem Tryz.enters41 : Enters Tryz.prog 41 := fun args w => by kernel_rfl
end Go.Proofs
end
section
set_option linter.unusedVariables false
set_option linter.unusedSimpArgs false
set_option maxRecDepth 100000
set_option maxHeartbeats 800000
namespace Go.Proofs
open Go.TL
attribute [local irreducible] Go.TL.T Go.TL.TO Go.TL.TQ
theorem c_ref15_Made (u : Nums) (A : Option Addr) (n cap : Nat) (hn : n = u.chain.length) (hx : NumsOk u) (hcl : u.chain.length ≤ 9223372036854775807) : Ctr Tryz.prog 7 #[.agg #[.int .i64 u.holder, .int .i64 u.r0, .int .i64 u.r1, .int .i64 u.s0, .int .i64 u.s1, .int .i64 u.carrier, .int .i64 u.serial, .slice A n cap]] [slc fiveL 5 A u.chain] [] (γ := Option Addr × Nat) (fun x => True) (fun x => .tuple #[wishV (madeW u), .slice x.1 (madeL u).length x.2]) (fun x => [row 40 7 x.1 (madeL u).length x.2 ((madeL u).flatMap proxyL)]) := by
 subst hn
 obtain ⟨⟨⟨x1, x1'⟩, ⟨x2, x2'⟩, ⟨x3, x3'⟩, ⟨x4, x4'⟩, ⟨x5, x5'⟩, ⟨x6, x6'⟩, ⟨x7, x7'⟩⟩, hch⟩ := hx
 have q1 := pickN_lo (c := u.r0) (n := 10000) (by decide)
 have q2 := pickN_hi (c := u.r0) (n := 10000) (by decide)
 have q3 := pickN_lo (c := u.r1) (n := 1000) (by decide)
 have q4 := pickN_hi (c := u.r1) (n := 1000) (by decide)
 have q5 := pickN_lo (c := u.s0) (n := 10000) (by decide)
 have q6 := pickN_hi (c := u.s0) (n := 10000) (by decide)
 have q7 := pickN_lo (c := u.s1) (n := 1000) (by decide)
 have q8 := pickN_hi (c := u.s1) (n := 1000) (by decide)
 refine Ctr.intro Tryz.func7 rfl Tryz.ntmps7 (Nat.le_of_ble_eq_true rfl) fun S0 w0 => ?_
 refine T.seq (T.region ?_)
 refine TO.box (v := .agg #[.int _ _, .int _ _, .int _ _, .int _ _, .int _ _, .int _ _, .int _ _, .slice _ _ _]) rfl (fun b1 => ?_)
 refine TO.alloc Tryz.zero30 (fun b2 => ?_)
 refine rdx (rd_assign (v := .slice _ _ _) rfl) ?_
 refine TO.nil (TQ.then_normal (T.seq (T.region ?_)))
 refine rdx (rd_fieldAddr Tryz.field25_1 rfl) ?_
 refine rdx (rd_ixa 0 Tryz.under22 Tryz.size3 rfl rfl rfl (by decide)) ?_
 refine rdx (rd_load (v := .int _ _) Tryz.one3 rfl (Has.own 1 rfl) rfl) ?_
 refine TO.fn Tryz.enters40 (c_ref15_pick _ _ (by omega) (by omega) (by omega) (by omega)) rfl Reads0 ?_
 refine rdx (rd_assign (v := .int _ _) rfl) ?_
 refine TO.nil (TQ.then_normal (T.seq (T.region ?_)))
 refine rdx (rd_move (v := .int _ _) rfl) ?_
 refine rdx (rd_move (v := .int _ _) rfl) ?_
 refine rdx (rd_add rfl rfl (w64 (by omega) (by omega))) ?_
 refine rdx (rd_fieldAddr Tryz.field25_1 rfl) ?_
 refine rdx (rd_ixa 1 Tryz.under22 Tryz.size3 rfl rfl rfl (by decide)) ?_
 refine rdx (rd_load (v := .int _ _) Tryz.one3 rfl (Has.own 1 rfl) rfl) ?_
 refine TO.fn Tryz.enters40 (c_ref15_pick _ _ (by omega) (by omega) (by omega) (by omega)) rfl Reads0 ?_
 refine rdx (rd_add rfl rfl (w64 (by omega) (by omega))) ?_
 refine rdx (rd_build (cs := [.int _ _, .int _ _]) Tryz.places27 Tryz.zero27 rfl rfl) ?_
 refine TO.alloc Tryz.zero27 (fun b3 => ?_)
 refine TO.store0 (cells' := #[.int _ _, .int _ _]) Tryz.size27 rfl (v := .agg #[.int _ _, .int _ _]) rfl rfl rfl (Nat.le_of_ble_eq_true rfl) rfl ?_
 refine TO.nil (TQ.then_normal (T.seq (T.region ?_)))
 refine rdx (rd_fieldAddr Tryz.field25_2 rfl) ?_
 refine rdx (rd_ixa 0 Tryz.under22 Tryz.size3 rfl rfl rfl (by decide)) ?_
 refine rdx (rd_load (v := .int _ _) Tryz.one3 rfl (Has.own 2 rfl) rfl) ?_
 refine TO.fn Tryz.enters40 (c_ref15_pick _ _ (by omega) (by omega) (by omega) (by omega)) rfl Reads0 ?_
 refine rdx (rd_assign (v := .int _ _) rfl) ?_
 refine TO.nil (TQ.then_normal (T.seq (T.region ?_)))
 refine rdx (rd_move (v := .int _ _) rfl) ?_
 refine rdx (rd_move (v := .int _ _) rfl) ?_
 refine rdx (rd_add rfl rfl (w64 (by omega) (by omega))) ?_
 refine rdx (rd_fieldAddr Tryz.field25_2 rfl) ?_
 refine rdx (rd_ixa 1 Tryz.under22 Tryz.size3 rfl rfl rfl (by decide)) ?_
 refine rdx (rd_load (v := .int _ _) Tryz.one3 rfl (Has.own 2 rfl) rfl) ?_
 refine TO.fn Tryz.enters40 (c_ref15_pick _ _ (by omega) (by omega) (by omega) (by omega)) rfl Reads0 ?_
 refine rdx (rd_add rfl rfl (w64 (by omega) (by omega))) ?_
 refine rdx (rd_build (cs := [.int _ _, .int _ _]) Tryz.places28 Tryz.zero28 rfl rfl) ?_
 refine TO.alloc Tryz.zero28 (fun b4 => ?_)
 refine TO.store0 (cells' := #[.int _ _, .int _ _]) Tryz.size28 rfl (v := .agg #[.int _ _, .int _ _]) rfl rfl rfl (Nat.le_of_ble_eq_true rfl) rfl ?_
 refine TO.nil (TQ.then_normal (T.seq (T.region ?_)))
 refine rdx (rd_fieldAddr Tryz.field25_0 rfl) ?_
 refine rdx (rd_load (v := .int _ _) Tryz.one3 rfl (Has.own 3 rfl) rfl) ?_
 refine TO.fn Tryz.enters40 (c_ref15_pick _ _ (by omega) (by omega) (by omega) (by omega)) rfl Reads0 ?_
 refine rdx (rd_assign (v := .int _ _) rfl) ?_
 refine TO.nil (TQ.then_normal (T.seq ?_))
 refine T.drawg Tryz.mixes 9 [(47, 0), (48, 1), (49, 2), (50, 3), (51, 4), (52, 5), (53, 6), (54, 7), (9, 8)] [0, 0, 2, 6, 0, 16, 62, 127, 0, 511] [8] (by kernel_rfl) ?_
 refine DG.rd rfl rfl rfl (fun _ _ => rd_move (v := .int _ _) rfl) ?_
 refine DG.rd rfl rfl rfl (fun _ _ => rd_fieldAddr Tryz.field25_3 rfl) ?_
 refine DG.rd rfl rfl rfl (fun _ _ => rd_load (v := .int _ _) Tryz.one3 rfl (Has.own 3 rfl) rfl) ?_
 refine DG.fn rfl rfl Tryz.enters40 (c_ref15_pick _ _ (by omega) (by omega) (by omega) (by omega)) (fun _ _ => rfl) Reads0 ?_
 refine DG.rd rfl rfl rfl (fun _ _ => rd_fieldAddr Tryz.field25_4 rfl) ?_
 refine DG.rd rfl rfl rfl (fun _ _ => rd_load (v := .int _ _) Tryz.one3 rfl (Has.own 3 rfl) rfl) ?_
 refine DG.fn rfl rfl Tryz.enters40 (c_ref15_pick _ _ (by omega) (by omega) (by omega) (by omega)) (fun _ _ => rfl) Reads0 ?_
 refine DG.rd rfl rfl rfl (fun _ _ => rd_build (cs := [.int _ _, .int _ _, .int _ _, .int _ _, .int _ _, .int _ _, .int _ _, .int _ _, .string _]) Tryz.places30 Tryz.zero30 rfl rfl) ?_
 refine DG.alloc rfl rfl Tryz.zero30 ?_
 refine DG.done rfl (by decide) rfl (fun gh6 => ?_)
 refine TO.store0 (cells' := #[.int _ _, .int _ _, .int _ _, .int _ _, .int _ _, .int _ _, .int _ _, .int _ _, .string _]) Tryz.size30 rfl (v := .agg #[.int _ _, .int _ _, .int _ _, .int _ _, .int _ _, .int _ _, .int _ _, .int _ _, .string _]) rfl rfl rfl (Nat.le_of_ble_eq_true rfl) rfl ?_
 refine TO.nil (TQ.then_normal (T.seq (T.region ?_)))
 refine rdx (rd_assign (v := .slice none 0 0) rfl) ?_
 refine TO.newrow 40 7 ?_
 refine TO.nil (TQ.then_normal (T.seq (T.seq (T.region ?_))))
 refine rdx (rd_assign (v := .int _ _) rfl) ?_
 refine TO.nil (TQ.then_normal (T.block ?_))
 refine T.front2 ?_
 refine T.front3 ?_
 refine T.loop4 [1, 2, 5, 7, 9] (fun (A1 : Option Addr) (cap1 : Nat) (k : Nat) (m : MS) => [(8, .int .i64 m.who), (10, .slice A1 k cap1), (11, .int .i64 (k : Nat))]) (fun (A1 : Option Addr) (cap1 : Nat) (k : Nat) (m : MS) => [own b3 #[.int .i64 m.a, .int .i64 m.b] 27, own b4 #[.int .i64 m.c, .int .i64 m.d] 28, row 40 7 A1 k cap1 (m.l.flatMap proxyL)]) (fun (A1 : Option Addr) (cap1 : Nat) (k : Nat) (m : MS) => m = mrun u k ∧ MOk m ∧ k ≤ u.chain.length ∧ k ≤ 4 ∧ m.l.length = k) (fun (A1 : Option Addr) (cap1 : Nat) (k : Nat) (m : MS) => 4 - k) (none) (0) (0) (mstart u) (⟨rfl, mstart_ok u, Nat.zero_le _, Nat.zero_le _, rfl⟩) (And.intro (rfl) (And.intro (rfl) (And.intro (rfl) (trivial)))) (fun _ _ h => h) fun A1 cap1 k m g0 hx0 => ?_
 obtain ⟨hm, hok, hk, hk4, hml⟩ := hx0
 have hok' := hok
 obtain ⟨⟨o1, o2⟩, ⟨o3, o4, o5⟩, o6, o7, o8⟩ := hok
 refine T.seq (T.seq (T.region ?_))
 refine rdx (rd_move (v := .int _ _) rfl) ?_
 refine rdx (rd_fieldAddr Tryz.field25_5 rfl) ?_
 refine rdx (rd_load (v := .slice _ _ _) Tryz.one23 rfl (Has.own 5 rfl) rfl) ?_
 refine rdx (rd_lensl Tryz.under23 rfl) ?_
 refine rdx (rd_lss rfl rfl) ?_
 refine rdx (rd_move (v := .bool _) rfl) ?_
 refine TO.decide_ft (s := 60) rfl (fun h8 => ?_) (fun h8 => ?_)
 ·try simp only [nrm] at h8
  refine TO.guard_false (s := 60) (b' := false) rfl rfl nofun ?_
  refine TO.guard_false (s := 60) (b' := false) rfl rfl nofun ?_
  refine rdx (rd_pick_false (v := .bool _) rfl rfl) ?_
  refine TO.nil (TQ.then_normal ?_)
  refine T.cond_false rfl ?_
  refine T.exit (TQ.then_exit (TQ.then_exit (TQ.block_out (TQ.then_normal (T.seq (T.region ?_))))))
  refine rdx (rd_move (v := .int _ _) rfl) ?_
  refine rdx (rd_fieldAddr Tryz.field30_0 rfl) ?_
  refine TO.front3 ?_
  refine TO.store0 (cells' := #[.int _ _, .int _ _, .int _ _, .int _ _, .int _ _, .int _ _, .int _ _, .int _ _, .string _]) Tryz.size3 rfl (v := .int _ _) rfl rfl rfl (Nat.le_of_ble_eq_true rfl) rfl ?_
  refine TO.nil (TQ.then_normal (T.seq (T.region ?_)))
  refine rdx (rd_load_agg (cs := #[.int _ _, .int _ _]) Tryz.agg27 rfl (Has.own 1 rfl) rfl rfl) ?_
  refine rdx (rd_fieldAddr Tryz.field30_2 rfl) ?_
  refine TO.store0 (cells' := #[.int _ _, .int _ _, .int _ _, .int _ _, .int _ _, .int _ _, .int _ _, .int _ _, .string _]) Tryz.size27 rfl (v := .agg #[.int _ _, .int _ _]) rfl rfl rfl (Nat.le_of_ble_eq_true rfl) rfl ?_
  refine TO.nil (TQ.then_normal (T.seq (T.region ?_)))
  refine rdx (rd_load_agg (cs := #[.int _ _, .int _ _]) Tryz.agg28 rfl (Has.own 2 rfl) rfl rfl) ?_
  refine rdx (rd_fieldAddr Tryz.field30_5 rfl) ?_
  refine TO.store0 (cells' := #[.int _ _, .int _ _, .int _ _, .int _ _, .int _ _, .int _ _, .int _ _, .int _ _, .string _]) Tryz.size28 rfl (v := .agg #[.int _ _, .int _ _]) rfl rfl rfl (Nat.le_of_ble_eq_true rfl) rfl ?_
  refine TO.nil (TQ.then_normal (T.seq ?_))
  refine T.drawn Tryz.mixes 9 [(130, 0), (131, 1), (132, 2), (133, 3), (129, 4), (134, 5), (135, 6), (16, 7)] [0, 1, 0, 7, 15, 31, 31, 0, 191, 511] [7] 8 7 (by kernel_rfl) rfl ?_
  refine DX.rd rfl rfl rfl (fun _ _ => rd_move (v := .int _ _) rfl) ?_
  refine DX.fn rfl rfl Tryz.enters19 (c_ref15_Key _) (fun _ _ => rfl) Reads0 ?_
  refine DX.rd rfl rfl rfl (fun _ _ => rd_load_agg (cs := #[.int _ _, .int _ _, .int _ _, .int _ _, .int _ _, .int _ _, .int _ _, .int _ _, .string _]) Tryz.agg30 rfl (Has.own 0 rfl) rfl rfl) ?_
  refine DX.fn rfl rfl Tryz.enters21 (c_ref15_SignWish (keyB m.who) (wishOfM u m) (by first | omega | exact wishText_le _ | exact proxyText_le _ | exact puts3_le _ _ _ | (simp only [List.length_append, List.length_cons, List.length_nil, sha_len, leafOf_len, nodeOf_len, sealOf_len, List.length_take, List.length_drop]; omega) | (rw [keyB_len]; omega))) (fun _ _ => rfl) Reads0 ?_
  refine DX.rd rfl rfl rfl (fun _ _ => rd_move (v := .tuple _) rfl) ?_
  refine DX.rd rfl rfl rfl (fun _ _ => rd_extract (v := .agg _) (vs := _) rfl rfl) ?_
  refine DX.rd rfl rfl rfl (fun _ _ => rd_extract (v := .int _ _) (vs := _) rfl rfl) ?_
  refine DX.alloc rfl rfl Tryz.zero30 ?_
  refine DX.stn (v := .agg #[.int _ _, .int _ _, .int _ _, .int _ _, .int _ _, .int _ _, .int _ _, .int _ _, .string _]) (cells' := #[.int _ _, .int _ _, .int _ _, .int _ _, .int _ _, .int _ _, .int _ _, .int _ _, .string _]) rfl rfl rfl rfl (by kernel_rfl) Tryz.size30 rfl (fun _ _ => rfl) (fun _ _ => rfl) rfl rfl (Nat.le_of_ble_eq_true rfl) rfl ?_
  refine DX.done [] rfl rfl (by decide) rfl (fun gh22 => ?_)
  refine rdx (rd_assign (v := .int _ _) rfl) ?_
  refine TO.nil (TQ.then_normal (T.seq (T.region ?_)))
  refine rdx (rd_load_agg (cs := #[.int _ _, .int _ _, .int _ _, .int _ _, .int _ _, .int _ _, .int _ _, .int _ _, .string _]) Tryz.agg30 rfl (Has.own 0 rfl) rfl rfl) ?_
  refine rdx (rd_move (v := .slice _ _ _) rfl) ?_
  refine TO.front5 ?_
  refine TO.store0 (cells' := #[.int _ _, .int _ _, .int _ _, .int _ _, .int _ _, .int _ _, .int _ _, .int _ _, .string _]) Tryz.size30 rfl (v := .agg #[.int _ _, .int _ _, .int _ _, .int _ _, .int _ _, .int _ _, .int _ _, .int _ _, .string _]) rfl rfl rfl (Nat.le_of_ble_eq_true rfl) rfl ?_
  refine rdx (rd_assign (v := .slice _ _ _) rfl) ?_
  refine TO.nil (TQ.then_normal (T.ret ?_))
  have hf : m = mfin u := by rw [hm, mfin]; congr 1; omega
  refine TQ.done ((A1, cap1)) (trivial) ?_ (fun _ _ h => by rw [madeL, ← hf]; exact seps_row 5 rfl hml.symm rfl h) (res2 Tryz.results7 (Res.cells (cs := #[.int _ _, .int _ _, .int _ _, .int _ _, .int _ _, .int _ _, .int _ _, .int _ _, .string _]) Tryz.agg30 rfl (Has.own 0 rfl) rfl rfl) (Res.tmp (v := .slice _ _ _) rfl)) _ (.inl rfl)
  rw [madeL, madeW, ← hf, hml]; rfl
 try simp only [nrm] at h8
 refine TO.guard_true (s := 60) rfl rfl ?_
 refine rdx (rd_move (v := .int _ _) rfl) ?_
 refine TO.guard_true (s := 60) rfl rfl ?_
 refine rdx (rd_lss rfl rfl) ?_
 refine rdx (rd_pick_true (v := .bool _) rfl rfl) ?_
 refine TO.nil (TQ.then_normal ?_)
 refine T.cond_ft rfl (fun h9 => ?_) (fun h9 => ?_)
 ·try simp only [nrm] at h9
  refine T.exit (TQ.then_exit (TQ.then_exit (TQ.block_out (TQ.then_normal (T.seq (T.region ?_))))))
  refine rdx (rd_move (v := .int _ _) rfl) ?_
  refine rdx (rd_fieldAddr Tryz.field30_0 rfl) ?_
  refine TO.front3 ?_
  refine TO.store0 (cells' := #[.int _ _, .int _ _, .int _ _, .int _ _, .int _ _, .int _ _, .int _ _, .int _ _, .string _]) Tryz.size3 rfl (v := .int _ _) rfl rfl rfl (Nat.le_of_ble_eq_true rfl) rfl ?_
  refine TO.nil (TQ.then_normal (T.seq (T.region ?_)))
  refine rdx (rd_load_agg (cs := #[.int _ _, .int _ _]) Tryz.agg27 rfl (Has.own 1 rfl) rfl rfl) ?_
  refine rdx (rd_fieldAddr Tryz.field30_2 rfl) ?_
  refine TO.store0 (cells' := #[.int _ _, .int _ _, .int _ _, .int _ _, .int _ _, .int _ _, .int _ _, .int _ _, .string _]) Tryz.size27 rfl (v := .agg #[.int _ _, .int _ _]) rfl rfl rfl (Nat.le_of_ble_eq_true rfl) rfl ?_
  refine TO.nil (TQ.then_normal (T.seq (T.region ?_)))
  refine rdx (rd_load_agg (cs := #[.int _ _, .int _ _]) Tryz.agg28 rfl (Has.own 2 rfl) rfl rfl) ?_
  refine rdx (rd_fieldAddr Tryz.field30_5 rfl) ?_
  refine TO.store0 (cells' := #[.int _ _, .int _ _, .int _ _, .int _ _, .int _ _, .int _ _, .int _ _, .int _ _, .string _]) Tryz.size28 rfl (v := .agg #[.int _ _, .int _ _]) rfl rfl rfl (Nat.le_of_ble_eq_true rfl) rfl ?_
  refine TO.nil (TQ.then_normal (T.seq ?_))
  refine T.drawn Tryz.mixes 9 [(130, 0), (131, 1), (132, 2), (133, 3), (129, 4), (134, 5), (135, 6), (16, 7)] [0, 1, 0, 7, 15, 31, 31, 0, 191, 511] [7] 8 7 (by kernel_rfl) rfl ?_
  refine DX.rd rfl rfl rfl (fun _ _ => rd_move (v := .int _ _) rfl) ?_
  refine DX.fn rfl rfl Tryz.enters19 (c_ref15_Key _) (fun _ _ => rfl) Reads0 ?_
  refine DX.rd rfl rfl rfl (fun _ _ => rd_load_agg (cs := #[.int _ _, .int _ _, .int _ _, .int _ _, .int _ _, .int _ _, .int _ _, .int _ _, .string _]) Tryz.agg30 rfl (Has.own 0 rfl) rfl rfl) ?_
  refine DX.fn rfl rfl Tryz.enters21 (c_ref15_SignWish (keyB m.who) (wishOfM u m) (by first | omega | exact wishText_le _ | exact proxyText_le _ | exact puts3_le _ _ _ | (simp only [List.length_append, List.length_cons, List.length_nil, sha_len, leafOf_len, nodeOf_len, sealOf_len, List.length_take, List.length_drop]; omega) | (rw [keyB_len]; omega))) (fun _ _ => rfl) Reads0 ?_
  refine DX.rd rfl rfl rfl (fun _ _ => rd_move (v := .tuple _) rfl) ?_
  refine DX.rd rfl rfl rfl (fun _ _ => rd_extract (v := .agg _) (vs := _) rfl rfl) ?_
  refine DX.rd rfl rfl rfl (fun _ _ => rd_extract (v := .int _ _) (vs := _) rfl rfl) ?_
  refine DX.alloc rfl rfl Tryz.zero30 ?_
  refine DX.stn (v := .agg #[.int _ _, .int _ _, .int _ _, .int _ _, .int _ _, .int _ _, .int _ _, .int _ _, .string _]) (cells' := #[.int _ _, .int _ _, .int _ _, .int _ _, .int _ _, .int _ _, .int _ _, .int _ _, .string _]) rfl rfl rfl rfl (by kernel_rfl) Tryz.size30 rfl (fun _ _ => rfl) (fun _ _ => rfl) rfl rfl (Nat.le_of_ble_eq_true rfl) rfl ?_
  refine DX.done [] rfl rfl (by decide) rfl (fun gh20 => ?_)
  refine rdx (rd_assign (v := .int _ _) rfl) ?_
  refine TO.nil (TQ.then_normal (T.seq (T.region ?_)))
  refine rdx (rd_load_agg (cs := #[.int _ _, .int _ _, .int _ _, .int _ _, .int _ _, .int _ _, .int _ _, .int _ _, .string _]) Tryz.agg30 rfl (Has.own 0 rfl) rfl rfl) ?_
  refine rdx (rd_move (v := .slice _ _ _) rfl) ?_
  refine TO.front5 ?_
  refine TO.store0 (cells' := #[.int _ _, .int _ _, .int _ _, .int _ _, .int _ _, .int _ _, .int _ _, .int _ _, .string _]) Tryz.size30 rfl (v := .agg #[.int _ _, .int _ _, .int _ _, .int _ _, .int _ _, .int _ _, .int _ _, .int _ _, .string _]) rfl rfl rfl (Nat.le_of_ble_eq_true rfl) rfl ?_
  refine rdx (rd_assign (v := .slice _ _ _) rfl) ?_
  refine TO.nil (TQ.then_normal (T.ret ?_))
  have hf : m = mfin u := by rw [hm, mfin]; congr 1; omega
  refine TQ.done ((A1, cap1)) (trivial) ?_ (fun _ _ h => by rw [madeL, ← hf]; exact seps_row 5 rfl hml.symm rfl h) (res2 Tryz.results7 (Res.cells (cs := #[.int _ _, .int _ _, .int _ _, .int _ _, .int _ _, .int _ _, .int _ _, .int _ _, .string _]) Tryz.agg30 rfl (Has.own 0 rfl) rfl rfl) (Res.tmp (v := .slice _ _ _) rfl)) _ (.inl rfl)
  rw [madeL, madeW, ← hf, hml]; rfl
 try simp only [nrm] at h9
 refine T.skip (TQ.then_normal (T.seq (T.block (T.seq (T.region ?_)))))
 refine rdx (rd_fieldAddr Tryz.field25_5 rfl) ?_
 refine rdx (rd_load (v := .slice _ _ _) Tryz.one23 rfl (Has.own 5 rfl) rfl) ?_
 refine rdx (rd_move (v := .int _ _) rfl) ?_
 refine rdx (rd_ix (k := k) Tryz.under23 Tryz.size77 rfl rfl (Has.arg 0 rfl) rfl (by omega) (by omega)) ?_
 refine rdx (rd_ela (cs := [.int _ _, .int _ _, .int _ _, .int _ _, .int _ _]) k 0 Tryz.agg77 rfl (Has.arg 0 rfl) rfl (by omega) (Nat.le_of_ble_eq_true rfl) rfl rfl rfl) ?_
 have hkl : k < u.chain.length := by omega
 obtain ⟨⟨y1, y1'⟩, ⟨y2, y2'⟩, ⟨y3, y3'⟩, ⟨y4, y4'⟩, ⟨y5, y5'⟩⟩ := hch k hkl
 refine TO.alloc Tryz.zero77 (fun b10 => ?_)
 refine TO.store0 (cells' := #[.int _ _, .int _ _, .int _ _, .int _ _, .int _ _]) Tryz.size77 rfl (v := .agg #[.int _ _, .int _ _, .int _ _, .int _ _, .int _ _]) rfl rfl rfl (Nat.le_of_ble_eq_true rfl) rfl ?_
 refine TO.nil (TQ.then_normal (T.seq ?_))
 refine T.drawg Tryz.mixes 12 [(71, 0), (72, 1), (73, 2), (74, 3), (75, 4), (76, 5), (77, 6), (78, 7), (79, 8), (80, 9), (81, 10), (13, 11)] [0, 0, 2, 0, 8, 24, 62, 126, 0, 0, 1023, 0, 4095] [11] (by kernel_rfl) ?_
 refine DG.rd rfl rfl rfl (fun _ _ => rd_move (v := .int _ _) rfl) ?_
 refine DG.rd rfl rfl rfl (fun _ _ => rd_move (v := .int _ _) rfl) ?_
 refine DG.rd rfl rfl rfl (fun _ _ => rd_add rfl rfl (w64 (by omega) (by omega))) ?_
 refine DG.rd rfl rfl rfl (fun _ _ => rd_ixa 0 Tryz.under77 Tryz.size3 rfl rfl rfl (by decide)) ?_
 refine DG.rd rfl rfl rfl (fun _ _ => rd_load (v := .int _ _) Tryz.one3 rfl (Has.own 0 rfl) rfl) ?_
 refine DG.fn rfl rfl Tryz.enters40 (c_ref15_pick _ _ (by omega) (by omega) (by omega) (by omega)) (fun _ _ => rfl) Reads0 ?_
 have e1 := pickN_lo (c := (u.chain[k]'hkl).a) (n := 9) (by decide)
 have e2 := pickN_hi (c := (u.chain[k]'hkl).a) (n := 9) (by decide)
 refine DG.rd rfl rfl rfl (fun _ _ => rd_add rfl rfl (w64 (by omega) (by omega))) ?_
 refine DG.rd rfl rfl rfl (fun _ _ => rd_rem rfl rfl (by omega) (Int.tmod_eq_emod_of_nonneg (by omega))) ?_
 refine DG.rd rfl rfl rfl (fun _ _ => rd_load_agg (cs := #[.int _ _, .int _ _]) Tryz.agg27 rfl (Has.own 1 rfl) rfl rfl) ?_
 refine DG.rd rfl rfl rfl (fun _ _ => rd_load_agg (cs := #[.int _ _, .int _ _]) Tryz.agg28 rfl (Has.own 2 rfl) rfl rfl) ?_
 refine DG.rd rfl rfl rfl (fun _ _ => rd_build (cs := [.int _ _, .int _ _, .int _ _, .int _ _, .int _ _, .int _ _, .string _]) Tryz.places40 Tryz.zero40 rfl rfl) ?_
 refine DG.alloc rfl rfl Tryz.zero40 ?_
 refine DG.done rfl (by decide) rfl (fun gh12 => ?_)
 refine TO.store0 (cells' := #[.int _ _, .int _ _, .int _ _, .int _ _, .int _ _, .int _ _, .string _]) Tryz.size40 rfl (v := .agg #[.int _ _, .int _ _, .int _ _, .int _ _, .int _ _, .int _ _, .string _]) rfl rfl rfl (Nat.le_of_ble_eq_true rfl) rfl ?_
 refine TO.nil (TQ.then_normal (T.seq ?_))
 refine T.drawn Tryz.mixes 9 [(83, 0), (84, 1), (85, 2), (86, 3), (82, 4), (87, 5), (88, 6), (14, 7)] [0, 1, 0, 7, 15, 31, 31, 0, 191, 511] [7] 8 7 (by kernel_rfl) rfl ?_
 refine DX.rd rfl rfl rfl (fun _ _ => rd_move (v := .int _ _) rfl) ?_
 refine DX.fn rfl rfl Tryz.enters19 (c_ref15_Key _) (fun _ _ => rfl) Reads0 ?_
 refine DX.rd rfl rfl rfl (fun _ _ => rd_load_agg (cs := #[.int _ _, .int _ _, .int _ _, .int _ _, .int _ _, .int _ _, .string _]) Tryz.agg40 rfl (Has.own 0 rfl) rfl rfl) ?_
 refine DX.fn rfl rfl Tryz.enters23 (c_ref15_SignProxy (keyB m.who) (⟨m.who, (m.who + 1 + pickN (u.chain[k]'hkl).a 9) % 10, m.a, m.b, m.c, m.d, []⟩) (by first | omega | exact wishText_le _ | exact proxyText_le _ | exact puts3_le _ _ _ | (simp only [List.length_append, List.length_cons, List.length_nil, sha_len, leafOf_len, nodeOf_len, sealOf_len, List.length_take, List.length_drop]; omega) | (rw [keyB_len]; omega))) (fun _ _ => rfl) Reads0 ?_
 refine DX.rd rfl rfl rfl (fun _ _ => rd_move (v := .tuple _) rfl) ?_
 refine DX.rd rfl rfl rfl (fun _ _ => rd_extract (v := .agg _) (vs := _) rfl rfl) ?_
 refine DX.rd rfl rfl rfl (fun _ _ => rd_extract (v := .int _ _) (vs := _) rfl rfl) ?_
 refine DX.alloc rfl rfl Tryz.zero40 ?_
 refine DX.stn (v := .agg #[.int _ _, .int _ _, .int _ _, .int _ _, .int _ _, .int _ _, .string _]) (cells' := #[.int _ _, .int _ _, .int _ _, .int _ _, .int _ _, .int _ _, .string _]) rfl rfl rfl rfl (by kernel_rfl) Tryz.size40 rfl (fun _ _ => rfl) (fun _ _ => rfl) rfl rfl (Nat.le_of_ble_eq_true rfl) rfl ?_
 refine DX.done [] rfl rfl (by decide) rfl (fun gh14 => ?_)
 refine rdx (rd_assign (v := .int _ _) rfl) ?_
 refine TO.nil (TQ.then_normal (T.seq (T.region ?_)))
 refine rdx (rd_move (v := .slice _ _ _) rfl) ?_
 refine rdx (rd_load_agg (cs := #[.int _ _, .int _ _, .int _ _, .int _ _, .int _ _, .int _ _, .string _]) Tryz.agg40 rfl (Has.own 0 rfl) rfl rfl) ?_
 refine TO.buildS (cs := [.int _ _, .int _ _, .int _ _, .int _ _, .int _ _, .int _ _, .string _]) Tryz.under31 Tryz.size40 Tryz.zero40 (Nat.le_of_ble_eq_true rfl) rfl (fun b15 => ?_)
 refine TO.front6 ?_
 refine TO.app Tryz.trow40 Tryz.under31 (.inl ⟨_, Tryz.under31⟩) rfl rfl (Src.own1 1 rfl rfl) rfl rfl (by omega) (fun A16 c17 hc18 => ?_)
 refine TO.row_eq (k' := k + 1) (cs' := (mstep m (u.chain[k]'hkl)).l.flatMap proxyL) rfl (by simp only [mstep, List.flatMap_append]; rfl) ?_
 refine rdx (rd_assign (v := .slice _ _ _) rfl) ?_
 refine TO.nil (TQ.then_normal (T.seq (T.region ?_)))
 refine rdx (rd_fieldAddr Tryz.field40_1 rfl) ?_
 refine rdx (rd_load (v := .int _ _) Tryz.one3 rfl (Has.own 3 rfl) rfl) ?_
 refine rdx (rd_assign (v := .int _ _) rfl) ?_
 refine TO.nil (TQ.then_normal (T.seq (T.region ?_)))
 refine rdx (rd_fieldAddr Tryz.field27_0 rfl) ?_
 refine rdx (rd_load (v := .int _ _) Tryz.one3 rfl (Has.own 5 rfl) rfl) ?_
 refine rdx (rd_fieldAddr Tryz.field27_1 rfl) ?_
 refine rdx (rd_load (v := .int _ _) Tryz.one3 rfl (Has.own 5 rfl) rfl) ?_
 refine rdx (rd_ixa 1 Tryz.under77 Tryz.size3 rfl rfl rfl (by decide)) ?_
 refine rdx (rd_load (v := .int _ _) Tryz.one3 rfl (Has.own 4 rfl) rfl) ?_
 refine rdx (rd_ixa 2 Tryz.under77 Tryz.size3 rfl rfl rfl (by decide)) ?_
 refine rdx (rd_load (v := .int _ _) Tryz.one3 rfl (Has.own 4 rfl) rfl) ?_
 refine TO.fn Tryz.enters41 (c_ref15_narrowed _ _ _ _ (by omega) (by omega) (by omega) (by omega) (by omega) (by omega) (by omega)) rfl Reads0 ?_
 refine rdx (rd_move (v := .tuple _) rfl) ?_
 refine rdx (rd_extract (v := .int _ _) (vs := _) rfl rfl) ?_
 refine rdx (rd_extract (v := .int _ _) (vs := _) rfl rfl) ?_
 refine rdx (rd_fieldAddr Tryz.field27_0 rfl) ?_
 refine TO.front5 ?_
 refine TO.store0 (cells' := #[.int _ _, .int _ _]) Tryz.size3 rfl (v := .int _ _) rfl rfl rfl (Nat.le_of_ble_eq_true rfl) rfl ?_
 refine rdx (rd_fieldAddr Tryz.field27_1 rfl) ?_
 refine TO.store0 (cells' := #[.int _ _, .int _ _]) Tryz.size3 rfl (v := .int _ _) rfl rfl rfl (Nat.le_of_ble_eq_true rfl) rfl ?_
 refine TO.nil (TQ.then_normal (T.region ?_))
 refine rdx (rd_fieldAddr Tryz.field28_0 rfl) ?_
 refine rdx (rd_load (v := .int _ _) Tryz.one3 rfl (Has.own 6 rfl) rfl) ?_
 refine rdx (rd_fieldAddr Tryz.field28_1 rfl) ?_
 refine rdx (rd_load (v := .int _ _) Tryz.one3 rfl (Has.own 6 rfl) rfl) ?_
 refine rdx (rd_ixa 3 Tryz.under77 Tryz.size3 rfl rfl rfl (by decide)) ?_
 refine rdx (rd_load (v := .int _ _) Tryz.one3 rfl (Has.own 5 rfl) rfl) ?_
 refine rdx (rd_ixa 4 Tryz.under77 Tryz.size3 rfl rfl rfl (by decide)) ?_
 refine rdx (rd_load (v := .int _ _) Tryz.one3 rfl (Has.own 5 rfl) rfl) ?_
 refine TO.fn Tryz.enters41 (c_ref15_narrowed _ _ _ _ (by omega) (by omega) (by omega) (by omega) (by omega) (by omega) (by omega)) rfl Reads0 ?_
 refine rdx (rd_move (v := .tuple _) rfl) ?_
 refine rdx (rd_extract (v := .int _ _) (vs := _) rfl rfl) ?_
 refine rdx (rd_extract (v := .int _ _) (vs := _) rfl rfl) ?_
 refine rdx (rd_fieldAddr Tryz.field28_0 rfl) ?_
 refine TO.front6 ?_
 refine TO.store0 (cells' := #[.int _ _, .int _ _]) Tryz.size3 rfl (v := .int _ _) rfl rfl rfl (Nat.le_of_ble_eq_true rfl) rfl ?_
 refine rdx (rd_fieldAddr Tryz.field28_1 rfl) ?_
 refine TO.store0 (cells' := #[.int _ _, .int _ _]) Tryz.size3 rfl (v := .int _ _) rfl rfl rfl (Nat.le_of_ble_eq_true rfl) rfl ?_
 refine TO.nil (TQ.block_normal (TQ.then_normal (T.region ?_)))
 refine rdx (rd_move (v := .int _ _) rfl) ?_
 refine rdx (rd_add rfl rfl (w64 (by omega) (by omega))) ?_
 refine rdx (rd_assign (v := .int _ _) rfl) ?_
 refine TO.nil ?_
 refine TQ.againk (A16, c17, k + 1, mstep m (u.chain[k]'hkl)) ?_ ?_ (And.intro (rfl) (And.intro (rfl) (And.intro (rfl) (trivial)))) (And.intro (rfl) (And.intro (rfl) (And.intro (rfl) (And.intro (rfl) (And.intro (rfl) (trivial)))))) (fun _ _ h => h.sel (js := [1, 0, 2, 7, 8, 9]) (by decide))
 ·exact ⟨by rw [mrun_succ hkl, ← hm], mstep_ok hok' _, by dsimp only; omega, by dsimp only; omega, by simp only [mstep, List.length_append, hml]; rfl⟩
 ·first | omega | (dsimp only; omega)
end Go.Proofs
end
section
set_option linter.unusedVariables false
set_option linter.unusedSimpArgs false
set_option maxRecDepth 100000
set_option maxHeartbeats 800000
namespace Go.Proofs
open Go.TL
attribute [local irreducible] Go.TL.T Go.TL.TO Go.TL.TQ
end Go.Proofs
end
