/- What the proof of WishTextsMatchReference leans on, part 3: a small program logic, plain facts, walks of functions. No statement of the seat is proved here. -/
import Derived.Test.YtlcbpicpociipaaGreatDoorB2
import Derived.Test.YtlcbpicpociipaaGreatDoorProg
section
set_option linter.unusedVariables false
set_option linter.unusedSimpArgs false
set_option maxRecDepth 100000
set_option maxHeartbeats 800000
namespace Go.Proofs
open Go.TL
attribute [local irreducible] Go.TL.T Go.TL.TO Go.TL.TQ
theorem c_ref01_zigzag (n : Int) (h1 : -4611686018427387903 ≤ n) (h2 : n ≤ 4611686018427387903) : Cv Tryz.prog 102 #[.int .i64 n] [] (.int .u64 (zig n : Nat)) := by
 refine Ctr.intro Tryz.func102 rfl Tryz.ntmps102 (Nat.le_of_ble_eq_true rfl) fun S0 w0 => ?_
 refine T.seq (T.region ?_)
 refine rdx (rd_assign (v := .int _ _) rfl) ?_
 refine TO.nil (TQ.then_normal (T.seq (T.seq (T.region ?_))))
 refine rdx (rd_move (v := .int _ _) rfl) ?_
 refine rdx (rd_lss rfl rfl) ?_
 refine TO.nil (TQ.then_normal ?_)
 refine T.cond_ft rfl (fun h1 => ?_) (fun h1 => ?_)
 ·try simp only [nrm] at h1
  refine T.skip (TQ.then_normal (T.seq (T.region ?_)))
  refine rdx (rd_move (v := .int _ _) rfl) ?_
  refine rdx (rd_convert Tryz.isome3 Tryz.under146 rfl (wu64 (by omega) (by omega))) ?_
  refine rdx (rd_mul rfl rfl (wu64 (by omega) (by omega))) ?_
  refine rdx (rd_assign (v := .int _ _) rfl) ?_
  refine TO.nil (TQ.then_normal (T.ret ?_))
  refine TQ.value ?_ (res1 Tryz.results102 (Res.tmp (v := .int _ _) rfl)) _ (.inl rfl)
  congr 1
  unfold zig
  split <;> omega
 try simp only [nrm] at h1
 refine T.seq (T.region ?_)
 refine rdx (rd_move (v := .int _ _) rfl) ?_
 refine rdx (rd_neg rfl (w64 (by omega) (by omega))) ?_
 refine rdx (rd_convert Tryz.isome3 Tryz.under146 rfl (wu64 (by omega) (by omega))) ?_
 refine rdx (rd_mul rfl rfl (wu64 (by omega) (by omega))) ?_
 refine rdx (rd_sub rfl rfl (wu64 (by omega) (by omega))) ?_
 refine rdx (rd_assign (v := .int _ _) rfl) ?_
 refine TO.nil (TQ.then_normal (T.ret (TQ.then_ret ?_)))
 refine TQ.value ?_ (res1 Tryz.results102 (Res.tmp (v := .int _ _) rfl)) _ (.inl rfl)
 congr 1
 unfold zig
 split <;> omega
theorem c_ref01_PutInt (n : Int) : Cv Tryz.prog 94 #[.int .i64 n] [] (.tuple #[.string (str (putInt n)), .int .i64 (putErr n)]) := by
 refine Ctr.intro Tryz.func94 rfl Tryz.ntmps94 (Nat.le_of_ble_eq_true rfl) fun S0 w0 => ?_
 refine T.seq (T.region ?_)
 refine rdx (rd_assign (v := .string _) rfl) ?_
 refine rdx (rd_assign (v := .int _ _) rfl) ?_
 refine TO.nil (TQ.then_normal (T.seq (T.seq (T.region ?_))))
 refine rdx (rd_move (v := .int _ _) rfl) ?_
 refine rdx (rd_lss rfl rfl) ?_
 refine rdx (rd_move (v := .bool _) rfl) ?_
 refine TO.decide (s := 8) rfl (fun h1 => ?_) (fun h1 => ?_)
 ·try simp only [nrm] at h1
  refine TO.guard_false (s := 8) (b' := true) rfl rfl nofun ?_
  refine TO.guard_false (s := 8) (b' := true) rfl rfl nofun ?_
  refine rdx (rd_pick_true (v := .bool _) rfl rfl) ?_
  refine TO.nil (TQ.then_normal ?_)
  refine T.cond_true rfl ?_
  refine T.seq (T.region ?_)
  refine rdx (rd_assign (v := .string _) rfl) ?_
  refine rdx (rd_assign (v := .int _ _) rfl) ?_
  refine TO.nil (TQ.then_normal (T.ret (TQ.then_ret ?_)))
  refine TQ.value ?_ (res2 Tryz.results94 (Res.tmp (v := .string _) rfl) (Res.tmp (v := .int _ _) rfl)) _ (.inl rfl)
  rw [putInt, putErr, if_neg (by omega), if_neg (by omega)]; rfl
 try simp only [nrm] at h1
 refine TO.guard_true (s := 8) rfl rfl ?_
 refine rdx (rd_move (v := .int _ _) rfl) ?_
 refine TO.guard_true (s := 8) rfl rfl ?_
 refine rdx (rd_gtr rfl rfl) ?_
 refine rdx (rd_pick_false (v := .bool _) rfl rfl) ?_
 refine TO.nil (TQ.then_normal ?_)
 refine T.cond rfl (fun h2 => ?_) (fun h2 => ?_)
 ·try simp only [nrm] at h2
  refine T.seq (T.region ?_)
  refine rdx (rd_assign (v := .string _) rfl) ?_
  refine rdx (rd_assign (v := .int _ _) rfl) ?_
  refine TO.nil (TQ.then_normal (T.ret (TQ.then_ret ?_)))
  refine TQ.value ?_ (res2 Tryz.results94 (Res.tmp (v := .string _) rfl) (Res.tmp (v := .int _ _) rfl)) _ (.inl rfl)
  rw [putInt, putErr, if_neg (by omega), if_neg (by omega)]; rfl
 try simp only [nrm] at h2
 refine T.skip (TQ.then_normal (T.seq (T.region ?_)))
 refine rdx (rd_move (v := .int _ _) rfl) ?_
 refine TO.fn Tryz.enters102 (c_ref01_zigzag _ (by omega) (by omega)) rfl Reads0 ?_
 refine rdx (rd_assign (v := .int _ _) rfl) ?_
 refine TO.nil (TQ.then_normal (T.seq (T.region ?_)))
 refine rdx (rd_assign (v := .slice none 0 0) rfl) ?_
 refine TO.newrow 5 1 ?_
 refine TO.nil (TQ.then_normal (T.seq (T.block ?_)))
 refine T.loop6 [] (fun (A : Option Addr) (cap : Nat) (m : Nat) (l : Bytes) (z : Nat) (k : Nat) => [(4, .int .u64 (z : Nat)), (5, .slice A m cap)]) (fun (A : Option Addr) (cap : Nat) (m : Nat) (l : Bytes) (z : Nat) (k : Nat) => [row 5 1 A m cap (bytesC l)]) (fun (A : Option Addr) (cap : Nat) (m : Nat) (l : Bytes) (z : Nat) (k : Nat) => l ++ vintF (k + 1) z = vint (zig n) ∧ z < 128 ^ (k + 1) ∧ z < 9223372036854775807 ∧ m + k = 9) (fun (A : Option Addr) (cap : Nat) (m : Nat) (l : Bytes) (z : Nat) (k : Nat) => k) (none) (0) (0) ([]) (zig n) (9) (⟨rfl, by have := zig_lt (n := n) (by omega) (by omega); omega, zig_lt (by omega) (by omega), rfl⟩) (And.intro (rfl) (And.intro (rfl) (trivial))) (fun _ _ h => h) fun A cap m l z k g0 hx0 => ?_
 obtain ⟨hl, hz, hz2, hk⟩ := hx0
 refine T.seq (T.seq (T.region ?_))
 refine rdx (rd_move (v := .int _ _) rfl) ?_
 refine rdx (rd_geq rfl rfl) ?_
 refine TO.nil (TQ.then_normal ?_)
 refine T.cond_ft rfl (fun h4 => ?_) (fun h4 => ?_)
 ·try simp only [nrm] at h4
  refine T.exit (TQ.then_exit (TQ.then_exit (TQ.block_out (TQ.then_normal (T.seq (T.region ?_))))))
  refine rdx (rd_move (v := .slice _ _ _) rfl) ?_
  refine rdx (rd_move (v := .int _ _) rfl) ?_
  refine rdx (rd_convert Tryz.isome146 Tryz.under5 rfl (wrap_u8 _)) ?_
  refine TO.buildS (cs := [.int _ _]) Tryz.under62 Tryz.size5 Tryz.zero5 (Nat.le_of_ble_eq_true rfl) rfl (fun b9 => ?_)
  refine TO.front1 ?_
  refine TO.app Tryz.trow5 Tryz.under62 (.inl ⟨_, Tryz.under62⟩) rfl rfl (Src.own1 1 rfl rfl) rfl rfl (by omega) (fun A10 c11 hc12 => ?_)
  refine TO.row_eq (cs' := bytesC (l ++ [UInt8.ofNat z])) rfl (by rw [bytesC_append]; simp [bytesC, UInt8.toNat_ofNat']) ?_
  refine rdx (rd_row_str Tryz.under62 Tryz.under5 Tryz.under9 rfl (Has.own 0 rfl)) ?_
  refine rdx (rd_assign (v := .string _) rfl) ?_
  refine rdx (rd_assign (v := .int _ _) rfl) ?_
  refine TO.nil (TQ.then_normal (T.ret ?_))
  refine TQ.value ?_ (res2 Tryz.results94 (Res.tmp (v := .string _) rfl) (Res.tmp (v := .int _ _) rfl)) _ (.inl rfl)
  rw [putInt, putErr, if_pos (by omega), if_pos (by omega), ← hl, vintF_end (by omega)]
 try simp only [nrm] at h4
 refine T.skip (TQ.then_normal (T.block (T.seq (T.region ?_))))
 refine rdx (rd_move (v := .slice _ _ _) rfl) ?_
 refine rdx (rd_move (v := .int _ _) rfl) ?_
 refine rdx (rd_remn (m := 128) rfl rfl rfl (by decide)) ?_
 refine rdx (rd_add rfl rfl (wu64 (by omega) (by omega))) ?_
 refine rdx (rd_convert Tryz.isome146 Tryz.under5 rfl (wrap_u8 _)) ?_
 refine TO.buildS (cs := [.int _ _]) Tryz.under62 Tryz.size5 Tryz.zero5 (Nat.le_of_ble_eq_true rfl) rfl (fun b5 => ?_)
 refine TO.front1 ?_
 refine TO.app Tryz.trow5 Tryz.under62 (.inl ⟨_, Tryz.under62⟩) rfl rfl (Src.own1 1 rfl rfl) rfl rfl (by omega) (fun A6 c7 hc8 => ?_)
 refine TO.row_eq (cs' := bytesC (l ++ [UInt8.ofNat (z % 128 + 128)])) rfl (by rw [bytesC_append]; simp [bytesC, UInt8.toNat_ofNat']) ?_
 refine rdx (rd_assign (v := .slice _ _ _) rfl) ?_
 refine TO.nil (TQ.then_normal (T.region ?_))
 refine rdx (rd_move (v := .int _ _) rfl) ?_
 refine rdx (rd_quo64 (m := 128) rfl rfl rfl (by decide) (by omega)) ?_
 refine rdx (rd_assign (v := .int _ _) rfl) ?_
 refine TO.nil (TQ.block_normal ?_)
 refine TQ.againk (A6, c7, m + 1, l ++ [UInt8.ofNat (z % 128 + 128)], z / 128, k - 1) ?_ ?_ (And.intro (rfl) (And.intro (rfl) (trivial))) (trivial) (fun _ _ h => h.sel (js := [0]) (by decide))
 ·obtain ⟨j, hj, hj0⟩ := pow128_pos hz (by omega)
  obtain rfl : k = j := by omega
  have e : k = (k - 1) + 1 := by omega
  rw [vintF_go (by omega)] at hl
  refine ⟨?_, ?_, by dsimp only; omega, by dsimp only; omega⟩
  ·dsimp only
   rw [← e, ← hl]; simp
  ·dsimp only
   rw [← e]; exact pow128 hz
 ·obtain ⟨j, hj, hj0⟩ := pow128_pos hz (by omega)
  dsimp only; omega
theorem c_ref01_Int (s : Bytes) (a : Int) (hs : s.length ≤ 4611686018427387903) : Cv Tryz.prog 96 #[.string (str s), .int .i64 a] [] (.tuple #[.int .i64 (unInt s a).1, .int .i64 (unInt s a).2.1, .int .i64 (unInt s a).2.2]) := by
 refine Ctr.intro Tryz.func96 rfl Tryz.ntmps96 (Nat.le_of_ble_eq_true rfl) fun S0 w0 => ?_
 refine T.seq (T.region ?_)
 refine rdx (rd_assign (v := .int _ _) rfl) ?_
 refine rdx (rd_assign (v := .int _ _) rfl) ?_
 refine rdx (rd_assign (v := .int _ _) rfl) ?_
 refine TO.nil (TQ.then_normal (T.seq (T.seq (T.region ?_))))
 refine rdx (rd_move (v := .int _ _) rfl) ?_
 refine rdx (rd_lss rfl rfl) ?_
 refine rdx (rd_move (v := .bool _) rfl) ?_
 refine TO.decide (s := 15) rfl (fun h1 => ?_) (fun h1 => ?_)
 ·try simp only [nrm] at h1
  refine TO.guard_false (s := 15) (b' := true) rfl rfl nofun ?_
  refine TO.guard_false (s := 15) (b' := true) rfl rfl nofun ?_
  refine TO.guard_false (s := 15) (b' := true) rfl rfl nofun ?_
  refine TO.guard_false (s := 15) (b' := true) rfl rfl nofun ?_
  refine rdx (rd_pick_true (v := .bool _) rfl rfl) ?_
  refine TO.nil (TQ.then_normal ?_)
  refine T.cond_true rfl ?_
  refine T.seq (T.region ?_)
  refine rdx (rd_assign (v := .int _ _) rfl) ?_
  refine rdx (rd_assign (v := .int _ _) rfl) ?_
  refine rdx (rd_assign (v := .int _ _) rfl) ?_
  refine TO.nil (TQ.then_normal (T.ret (TQ.then_ret ?_)))
  refine TQ.value ?_ (res3 Tryz.results96 (Res.tmp (v := .int _ _) rfl) (Res.tmp (v := .int _ _) rfl) (Res.tmp (v := .int _ _) rfl)) _ (.inl rfl)
  rw [unInt_out (by omega)]
 try simp only [nrm] at h1
 refine TO.guard_true (s := 15) rfl rfl ?_
 refine rdx (rd_move (v := .int _ _) rfl) ?_
 refine TO.guard_true (s := 15) rfl rfl ?_
 refine rdx (rd_move (v := .string _) rfl) ?_
 refine TO.guard_true (s := 15) rfl rfl ?_
 refine rdx (rd_lens' Tryz.under9 rfl) ?_
 refine TO.guard_true (s := 15) rfl rfl ?_
 refine rdx (rd_gtr rfl rfl) ?_
 refine rdx (rd_pick_false (v := .bool _) rfl rfl) ?_
 refine TO.nil (TQ.then_normal ?_)
 refine T.cond rfl (fun h2 => ?_) (fun h2 => ?_)
 ·try simp only [nrm] at h2
  refine T.seq (T.region ?_)
  refine rdx (rd_assign (v := .int _ _) rfl) ?_
  refine rdx (rd_assign (v := .int _ _) rfl) ?_
  refine rdx (rd_assign (v := .int _ _) rfl) ?_
  refine TO.nil (TQ.then_normal (T.ret (TQ.then_ret ?_)))
  refine TQ.value ?_ (res3 Tryz.results96 (Res.tmp (v := .int _ _) rfl) (Res.tmp (v := .int _ _) rfl) (Res.tmp (v := .int _ _) rfl)) _ (.inl rfl)
  rw [unInt_out (by omega)]
 try simp only [nrm] at h2
 refine T.skip (TQ.then_normal (T.seq (T.region ?_)))
 refine rdx (rd_assign (v := .int _ _) rfl) ?_
 refine TO.nil (TQ.then_normal (T.seq (T.seq (T.region ?_))))
 refine rdx (rd_assign (v := .int _ _) rfl) ?_
 refine TO.nil (TQ.then_normal (T.block ?_))
 refine T.loop3 [0, 1] (fun (i : Nat) (k : Nat) (z : Nat) => [(7, .int .u64 (z : Nat)), (8, .int .i64 (i : Nat))]) (fun (i : Nat) (k : Nat) (z : Nat) => []) (fun (i : Nat) (k : Nat) (z : Nat) => RdInv s a.toNat i k z ∧ i + k = 9 ∧ z < 128 ^ i) (fun (i : Nat) (k : Nat) (z : Nat) => k) (0) (9) (0) (⟨RdInv.start _ _, rfl, by decide⟩) (And.intro (rfl) (And.intro (rfl) (trivial))) (fun _ _ h => h) fun i k z g0 hx0 => ?_
 obtain ⟨hI, hik, hz⟩ := hx0
 refine T.seq (T.seq (T.region ?_))
 refine rdx (rd_move (v := .int _ _) rfl) ?_
 refine rdx (rd_lss rfl rfl) ?_
 refine rdx (rd_move (v := .bool _) rfl) ?_
 refine TO.decide_ft (s := 23) rfl (fun h3 => ?_) (fun h3 => ?_)
 ·try simp only [nrm] at h3
  refine TO.guard_false (s := 23) (b' := false) rfl rfl nofun ?_
  refine TO.guard_false (s := 23) (b' := false) rfl rfl nofun ?_
  refine TO.guard_false (s := 23) (b' := false) rfl rfl nofun ?_
  refine TO.guard_false (s := 23) (b' := false) rfl rfl nofun ?_
  refine TO.guard_false (s := 23) (b' := false) rfl rfl nofun ?_
  refine TO.guard_false (s := 23) (b' := false) rfl rfl nofun ?_
  refine rdx (rd_pick_false (v := .bool _) rfl rfl) ?_
  refine TO.nil (TQ.then_normal ?_)
  refine T.cond_false rfl ?_
  refine T.exit (TQ.then_exit (TQ.then_exit (TQ.block_out (TQ.then_normal (T.seq (T.region ?_))))))
  refine rdx (rd_assign (v := .int _ _) rfl) ?_
  refine rdx (rd_assign (v := .int _ _) rfl) ?_
  refine rdx (rd_assign (v := .int _ _) rfl) ?_
  refine TO.nil (TQ.then_normal (T.ret ?_))
  refine TQ.value ?_ (res3 Tryz.results96 (Res.tmp (v := .int _ _) rfl) (Res.tmp (v := .int _ _) rfl) (Res.tmp (v := .int _ _) rfl)) _ (.inl rfl)
  rw [unInt_none (by omega) (by omega) (hI.out (by omega))]
 try simp only [nrm] at h3
 refine TO.guard_true (s := 23) rfl rfl ?_
 refine rdx (rd_move (v := .int _ _) rfl) ?_
 refine TO.guard_true (s := 23) rfl rfl ?_
 refine rdx (rd_move (v := .int _ _) rfl) ?_
 refine TO.guard_true (s := 23) rfl rfl ?_
 refine rdx (rd_add rfl rfl (w64 (by omega) (by omega))) ?_
 refine TO.guard_true (s := 23) rfl rfl ?_
 refine rdx (rd_move (v := .string _) rfl) ?_
 refine TO.guard_true (s := 23) rfl rfl ?_
 refine rdx (rd_lens' Tryz.under9 rfl) ?_
 refine TO.guard_true (s := 23) rfl rfl ?_
 refine rdx (rd_lss rfl rfl) ?_
 refine rdx (rd_pick_true (v := .bool _) rfl rfl) ?_
 refine TO.nil (TQ.then_normal ?_)
 refine T.cond_ft rfl (fun h4 => ?_) (fun h4 => ?_)
 ·try simp only [nrm] at h4
  refine T.exit (TQ.then_exit (TQ.then_exit (TQ.block_out (TQ.then_normal (T.seq (T.region ?_))))))
  refine rdx (rd_assign (v := .int _ _) rfl) ?_
  refine rdx (rd_assign (v := .int _ _) rfl) ?_
  refine rdx (rd_assign (v := .int _ _) rfl) ?_
  refine TO.nil (TQ.then_normal (T.ret ?_))
  refine TQ.value ?_ (res3 Tryz.results96 (Res.tmp (v := .int _ _) rfl) (Res.tmp (v := .int _ _) rfl) (Res.tmp (v := .int _ _) rfl)) _ (.inl rfl)
  rw [unInt_none (by omega) (by omega) (hI.out (by omega))]
 try simp only [nrm] at h4
 refine T.skip (TQ.then_normal (T.seq (T.block (T.seq (T.region ?_)))))
 refine rdx (rd_move (v := .string _) rfl) ?_
 refine rdx (rd_move (v := .int _ _) rfl) ?_
 refine rdx (rd_move (v := .int _ _) rfl) ?_
 refine rdx (rd_add rfl rfl (w64 (by omega) (by omega))) ?_
 refine rdx (rd_idxs (j := a.toNat + i) Tryz.under9 rfl rfl (by omega) (by omega)) ?_
 refine rdx (rd_conv8_64 Tryz.isome5 Tryz.under146 rfl) ?_
 refine rdx (rd_assign (v := .int _ _) rfl) ?_
 refine TO.nil (TQ.then_normal (T.seq (T.region ?_)))
 refine rdx (rd_move (v := .int _ _) rfl) ?_
 refine rdx (rd_move (v := .int _ _) rfl) ?_
 refine rdx (rd_remn (m := 128) rfl rfl rfl (by decide)) ?_
 refine rdx (rd_move (v := .int _ _) rfl) ?_
 refine rdx (rd_mul rfl rfl (w64 (by omega) (by omega))) ?_
 refine rdx (rd_shl rfl rfl (by omega) (shl7 (Nat.mod_lt _ (by decide)) (by omega))) ?_
 refine rdx (rd_add64n rfl rfl (Nat.lt_of_lt_of_le (add128 hz (Nat.mod_lt _ (by omega))) (by have := pow128_le (i := i + 1) (by omega); omega))) ?_
 have hZ : z + (s[a.toNat + i]'(by omega)).toNat % 128 * 128 ^ i < 9223372036854775808 := Nat.lt_of_lt_of_le (add128 hz (Nat.mod_lt _ (by omega))) (by have := pow128_le (i := i + 1) (by omega); omega)
 refine rdx (rd_assign (v := .int _ _) rfl) ?_
 refine TO.nil (TQ.then_normal (T.seq (T.seq (T.region ?_))))
 refine rdx (rd_move (v := .int _ _) rfl) ?_
 refine rdx (rd_geq rfl rfl) ?_
 refine TO.nil (TQ.then_normal ?_)
 refine T.cond rfl (fun h5 => ?_) (fun h5 => ?_)
 ·try simp only [nrm] at h5
  refine T.exit (TQ.then_exit (TQ.block_out (TQ.then_normal (T.region ?_))))
  refine rdx (rd_move (v := .int _ _) rfl) ?_
  refine rdx (rd_add rfl rfl (w64 (by omega) (by omega))) ?_
  refine rdx (rd_assign (v := .int _ _) rfl) ?_
  refine TO.nil ?_
  refine TQ.againk (i + 1, k - 1, z + (s[a.toNat + i]'(by omega)).toNat % 128 * 128 ^ i) ?_ ?_ (And.intro (rfl) (And.intro (rfl) (trivial))) (And.intro (rfl) (And.intro (rfl) (trivial))) (fun _ _ h => h)
  ·obtain ⟨k, rfl⟩ : ∃ j, k = j + 1 := ⟨k - 1, by omega⟩
   exact ⟨by simpa using hI.next (by omega) (by omega), by dsimp only; omega, add128 hz (Nat.mod_lt _ (by omega))⟩
  ·dsimp only; omega
 try simp only [nrm] at h5
 refine T.skip (TQ.then_normal (T.seq (T.region ?_)))
 refine rdx (rd_move (v := .int _ _) rfl) ?_
 refine rdx (rd_quo64 (m := 2) rfl rfl rfl (by decide) (by omega)) ?_
 refine rdx (rd_convert Tryz.isome146 Tryz.under3 rfl (w64 (by omega) (by omega))) ?_
 refine rdx (rd_assign (v := .int _ _) rfl) ?_
 refine TO.nil (TQ.then_normal (T.seq (T.seq (T.region ?_))))
 refine rdx (rd_move (v := .int _ _) rfl) ?_
 refine rdx (rd_remn (m := 2) rfl rfl rfl (by decide)) ?_
 refine rdx (rd_eql rfl rfl) ?_
 refine TO.nil (TQ.then_normal ?_)
 refine T.cond_ft rfl (fun h6 => ?_) (fun h6 => ?_)
 ·try simp only [nrm] at h6
  refine T.skip (TQ.then_normal (T.seq (T.region ?_)))
  refine rdx (rd_move (v := .int _ _) rfl) ?_
  refine TO.fn Tryz.enters94 (c_ref01_PutInt _) rfl Reads0 ?_
  refine rdx (rd_move (v := .tuple _) rfl) ?_
  refine rdx (rd_extract (v := .string _) (vs := _) rfl rfl) ?_
  refine rdx (rd_extract (v := .int _ _) (vs := _) rfl rfl) ?_
  refine rdx (rd_assign (v := .string _) rfl) ?_
  refine rdx (rd_assign (v := .int _ _) rfl) ?_
  refine TO.nil (TQ.then_normal (T.seq (T.seq (T.region ?_))))
  refine rdx (rd_move (v := .int _ _) rfl) ?_
  refine rdx (rd_neq rfl rfl) ?_
  refine rdx (rd_move (v := .bool _) rfl) ?_
  refine TO.decide (s := 64) rfl (fun h9 => ?_) (fun h9 => ?_)
  ·try simp only [nrm] at h9
   refine TO.guard_false (s := 64) (b' := true) rfl rfl nofun ?_
   refine TO.guard_false (s := 64) (b' := true) rfl rfl nofun ?_
   refine TO.guard_false (s := 64) (b' := true) rfl rfl nofun ?_
   refine TO.guard_false (s := 64) (b' := true) rfl rfl nofun ?_
   refine TO.guard_false (s := 64) (b' := true) rfl rfl nofun ?_
   refine TO.guard_false (s := 64) (b' := true) rfl rfl nofun ?_
   refine TO.guard_false (s := 64) (b' := true) rfl rfl nofun ?_
   refine TO.guard_false (s := 64) (b' := true) rfl rfl nofun ?_
   refine TO.guard_false (s := 64) (b' := true) rfl rfl nofun ?_
   refine rdx (rd_pick_true (v := .bool _) rfl rfl) ?_
   refine TO.nil (TQ.then_normal ?_)
   refine T.cond_true rfl ?_
   refine T.seq (T.region ?_)
   refine rdx (rd_assign (v := .int _ _) rfl) ?_
   refine rdx (rd_assign (v := .int _ _) rfl) ?_
   refine rdx (rd_assign (v := .int _ _) rfl) ?_
   refine TO.nil (TQ.then_normal (T.ret (TQ.then_ret (TQ.block_ret (TQ.then_ret (TQ.then_ret (TQ.block_ret (TQ.then_ret ?_))))))))
   refine TQ.value ?_ (res3 Tryz.results96 (Res.tmp (v := .int _ _) rfl) (Res.tmp (v := .int _ _) rfl) (Res.tmp (v := .int _ _) rfl)) _ (.inl rfl)
   obtain ⟨k, rfl⟩ : ∃ j, k = j + 1 := ⟨k - 1, by omega⟩
   have hr := (show rdv 9 (s.drop a.toNat) = some (z + (s[a.toNat + i]'(by omega)).toNat % 128 * 128 ^ i, i, _) from by rw [Nat.mod_eq_of_lt (by omega)]; exact hI.stop (by omega) (by omega))
   have hsm := rdv_small hr
   have hu : unz (z + (s[a.toNat + i]'(by omega)).toNat % 128 * 128 ^ i) = (((z + (s[a.toNat + i]'(by omega)).toNat % 128 * 128 ^ i) / 2 : Nat) : Int) := by
    unfold unz
    split <;> omega
   rw [unInt_bad (by omega) (by omega) hr (.inr (by
    rw [← hu] at h9
    have := (not_congr (putErr_unz hsm)).1 h9
    omega))]
  try simp only [nrm] at h9
  refine TO.guard_true (s := 64) rfl rfl ?_
  refine rdx (rd_move (v := .string _) rfl) ?_
  refine TO.guard_true (s := 64) rfl rfl ?_
  refine rdx (rd_move (v := .string _) rfl) ?_
  refine TO.guard_true (s := 64) rfl rfl ?_
  refine rdx (rd_move (v := .int _ _) rfl) ?_
  refine TO.guard_true (s := 64) rfl rfl ?_
  refine rdx (rd_move (v := .int _ _) rfl) ?_
  refine TO.guard_true (s := 64) rfl rfl ?_
  refine rdx (rd_move (v := .int _ _) rfl) ?_
  refine TO.guard_true (s := 64) rfl rfl ?_
  refine rdx (rd_add rfl rfl (w64 (by omega) (by omega))) ?_
  refine TO.guard_true (s := 64) rfl rfl ?_
  refine rdx (rd_add rfl rfl (w64 (by omega) (by omega))) ?_
  refine TO.guard_true (s := 64) rfl rfl ?_
  refine rdx (rd_sub_str (i := a.toNat) (j := a.toNat + i + 1) Tryz.under9 rfl (.inr ⟨_, eqv (by omega)⟩) (.inr ⟨_, eqv (by omega)⟩) (by omega) (by omega) rfl) ?_
  refine TO.guard_true (s := 64) rfl rfl ?_
  refine rdx (rd_nes' rfl rfl) ?_
  refine rdx (rd_pick_false (v := .bool _) rfl rfl) ?_
  refine TO.nil (TQ.then_normal ?_)
  refine T.cond rfl (fun h10 => ?_) (fun h10 => ?_)
  ·try simp only [nrm] at h10
   refine T.seq (T.region ?_)
   refine rdx (rd_assign (v := .int _ _) rfl) ?_
   refine rdx (rd_assign (v := .int _ _) rfl) ?_
   refine rdx (rd_assign (v := .int _ _) rfl) ?_
   refine TO.nil (TQ.then_normal (T.ret (TQ.then_ret (TQ.block_ret (TQ.then_ret (TQ.then_ret (TQ.block_ret (TQ.then_ret ?_))))))))
   refine TQ.value ?_ (res3 Tryz.results96 (Res.tmp (v := .int _ _) rfl) (Res.tmp (v := .int _ _) rfl) (Res.tmp (v := .int _ _) rfl)) _ (.inl rfl)
   obtain ⟨k, rfl⟩ : ∃ j, k = j + 1 := ⟨k - 1, by omega⟩
   have hr := (show rdv 9 (s.drop a.toNat) = some (z + (s[a.toNat + i]'(by omega)).toNat % 128 * 128 ^ i, i, _) from by rw [Nat.mod_eq_of_lt (by omega)]; exact hI.stop (by omega) (by omega))
   have hsm := rdv_small hr
   have hu : unz (z + (s[a.toNat + i]'(by omega)).toNat % 128 * 128 ^ i) = (((z + (s[a.toNat + i]'(by omega)).toNat % 128 * 128 ^ i) / 2 : Nat) : Int) := by
    unfold unz
    split <;> omega
   rw [unInt_bad (by omega) (by omega) hr (by
    rw [← hu] at h10 h9
    have h1 := (putErr_unz hsm).1 h9
    have h2 := (not_congr (putInt_unz hr h1)).1 (by rw [List.take_drop]; simpa [Nat.add_assoc] using h10)
    exact .inl (Decidable.not_not.1 h2))]
  try simp only [nrm] at h10
  refine T.skip (TQ.then_normal (T.seq (T.region ?_)))
  refine rdx (rd_move (v := .int _ _) rfl) ?_
  refine rdx (rd_move (v := .int _ _) rfl) ?_
  refine rdx (rd_move (v := .int _ _) rfl) ?_
  refine rdx (rd_add rfl rfl (w64 (by omega) (by omega))) ?_
  refine rdx (rd_add rfl rfl (w64 (by omega) (by omega))) ?_
  refine rdx (rd_assign (v := .int _ _) rfl) ?_
  refine rdx (rd_assign (v := .int _ _) rfl) ?_
  refine rdx (rd_assign (v := .int _ _) rfl) ?_
  refine TO.nil (TQ.then_normal (T.ret (TQ.block_ret (TQ.then_ret (TQ.then_ret (TQ.block_ret (TQ.then_ret ?_)))))))
  refine TQ.value ?_ (res3 Tryz.results96 (Res.tmp (v := .int _ _) rfl) (Res.tmp (v := .int _ _) rfl) (Res.tmp (v := .int _ _) rfl)) _ (.inl rfl)
  obtain ⟨k, rfl⟩ : ∃ j, k = j + 1 := ⟨k - 1, by omega⟩
  have hr := (show rdv 9 (s.drop a.toNat) = some (z + (s[a.toNat + i]'(by omega)).toNat % 128 * 128 ^ i, i, _) from by rw [Nat.mod_eq_of_lt (by omega)]; exact hI.stop (by omega) (by omega))
  have hsm := rdv_small hr
  have hu : unz (z + (s[a.toNat + i]'(by omega)).toNat % 128 * 128 ^ i) = (((z + (s[a.toNat + i]'(by omega)).toNat % 128 * 128 ^ i) / 2 : Nat) : Int) := by
   unfold unz
   split <;> omega
  rw [unInt_ok (by omega) (by omega) hr (by
   rw [← hu] at h10 h9
   have h1 := (putErr_unz hsm).1 h9
   have h2 := (putInt_unz hr h1).1 (by rw [List.take_drop]; simpa [Nat.add_assoc] using h10)
   omega), hu]
 try simp only [nrm] at h6
 refine T.region ?_
 refine rdx (rd_move (v := .int _ _) rfl) ?_
 refine rdx (rd_neg rfl (w64 (by omega) (by omega))) ?_
 refine rdx (rd_sub rfl rfl (w64 (by omega) (by omega))) ?_
 refine rdx (rd_assign (v := .int _ _) rfl) ?_
 refine TO.nil (TQ.then_normal (T.seq (T.region ?_)))
 refine rdx (rd_move (v := .int _ _) rfl) ?_
 refine TO.fn Tryz.enters94 (c_ref01_PutInt _) rfl Reads0 ?_
 refine rdx (rd_move (v := .tuple _) rfl) ?_
 refine rdx (rd_extract (v := .string _) (vs := _) rfl rfl) ?_
 refine rdx (rd_extract (v := .int _ _) (vs := _) rfl rfl) ?_
 refine rdx (rd_assign (v := .string _) rfl) ?_
 refine rdx (rd_assign (v := .int _ _) rfl) ?_
 refine TO.nil (TQ.then_normal (T.seq (T.seq (T.region ?_))))
 refine rdx (rd_move (v := .int _ _) rfl) ?_
 refine rdx (rd_neq rfl rfl) ?_
 refine rdx (rd_move (v := .bool _) rfl) ?_
 refine TO.decide (s := 64) rfl (fun h7 => ?_) (fun h7 => ?_)
 ·try simp only [nrm] at h7
  refine TO.guard_false (s := 64) (b' := true) rfl rfl nofun ?_
  refine TO.guard_false (s := 64) (b' := true) rfl rfl nofun ?_
  refine TO.guard_false (s := 64) (b' := true) rfl rfl nofun ?_
  refine TO.guard_false (s := 64) (b' := true) rfl rfl nofun ?_
  refine TO.guard_false (s := 64) (b' := true) rfl rfl nofun ?_
  refine TO.guard_false (s := 64) (b' := true) rfl rfl nofun ?_
  refine TO.guard_false (s := 64) (b' := true) rfl rfl nofun ?_
  refine TO.guard_false (s := 64) (b' := true) rfl rfl nofun ?_
  refine TO.guard_false (s := 64) (b' := true) rfl rfl nofun ?_
  refine rdx (rd_pick_true (v := .bool _) rfl rfl) ?_
  refine TO.nil (TQ.then_normal ?_)
  refine T.cond_true rfl ?_
  refine T.seq (T.region ?_)
  refine rdx (rd_assign (v := .int _ _) rfl) ?_
  refine rdx (rd_assign (v := .int _ _) rfl) ?_
  refine rdx (rd_assign (v := .int _ _) rfl) ?_
  refine TO.nil (TQ.then_normal (T.ret (TQ.then_ret (TQ.block_ret (TQ.then_ret (TQ.then_ret (TQ.block_ret (TQ.then_ret ?_))))))))
  refine TQ.value ?_ (res3 Tryz.results96 (Res.tmp (v := .int _ _) rfl) (Res.tmp (v := .int _ _) rfl) (Res.tmp (v := .int _ _) rfl)) _ (.inl rfl)
  obtain ⟨k, rfl⟩ : ∃ j, k = j + 1 := ⟨k - 1, by omega⟩
  have hr := (show rdv 9 (s.drop a.toNat) = some (z + (s[a.toNat + i]'(by omega)).toNat % 128 * 128 ^ i, i, _) from by rw [Nat.mod_eq_of_lt (by omega)]; exact hI.stop (by omega) (by omega))
  have hsm := rdv_small hr
  have hu : unz (z + (s[a.toNat + i]'(by omega)).toNat % 128 * 128 ^ i) = (0 : Int) - (((z + (s[a.toNat + i]'(by omega)).toNat % 128 * 128 ^ i) / 2 : Nat) : Int) - 1 := by
   unfold unz
   split <;> omega
  rw [unInt_bad (by omega) (by omega) hr (.inr (by
   rw [← hu] at h7
   have := (not_congr (putErr_unz hsm)).1 h7
   omega))]
 try simp only [nrm] at h7
 refine TO.guard_true (s := 64) rfl rfl ?_
 refine rdx (rd_move (v := .string _) rfl) ?_
 refine TO.guard_true (s := 64) rfl rfl ?_
 refine rdx (rd_move (v := .string _) rfl) ?_
 refine TO.guard_true (s := 64) rfl rfl ?_
 refine rdx (rd_move (v := .int _ _) rfl) ?_
 refine TO.guard_true (s := 64) rfl rfl ?_
 refine rdx (rd_move (v := .int _ _) rfl) ?_
 refine TO.guard_true (s := 64) rfl rfl ?_
 refine rdx (rd_move (v := .int _ _) rfl) ?_
 refine TO.guard_true (s := 64) rfl rfl ?_
 refine rdx (rd_add rfl rfl (w64 (by omega) (by omega))) ?_
 refine TO.guard_true (s := 64) rfl rfl ?_
 refine rdx (rd_add rfl rfl (w64 (by omega) (by omega))) ?_
 refine TO.guard_true (s := 64) rfl rfl ?_
 refine rdx (rd_sub_str (i := a.toNat) (j := a.toNat + i + 1) Tryz.under9 rfl (.inr ⟨_, eqv (by omega)⟩) (.inr ⟨_, eqv (by omega)⟩) (by omega) (by omega) rfl) ?_
 refine TO.guard_true (s := 64) rfl rfl ?_
 refine rdx (rd_nes' rfl rfl) ?_
 refine rdx (rd_pick_false (v := .bool _) rfl rfl) ?_
 refine TO.nil (TQ.then_normal ?_)
 refine T.cond rfl (fun h8 => ?_) (fun h8 => ?_)
 ·try simp only [nrm] at h8
  refine T.seq (T.region ?_)
  refine rdx (rd_assign (v := .int _ _) rfl) ?_
  refine rdx (rd_assign (v := .int _ _) rfl) ?_
  refine rdx (rd_assign (v := .int _ _) rfl) ?_
  refine TO.nil (TQ.then_normal (T.ret (TQ.then_ret (TQ.block_ret (TQ.then_ret (TQ.then_ret (TQ.block_ret (TQ.then_ret ?_))))))))
  refine TQ.value ?_ (res3 Tryz.results96 (Res.tmp (v := .int _ _) rfl) (Res.tmp (v := .int _ _) rfl) (Res.tmp (v := .int _ _) rfl)) _ (.inl rfl)
  obtain ⟨k, rfl⟩ : ∃ j, k = j + 1 := ⟨k - 1, by omega⟩
  have hr := (show rdv 9 (s.drop a.toNat) = some (z + (s[a.toNat + i]'(by omega)).toNat % 128 * 128 ^ i, i, _) from by rw [Nat.mod_eq_of_lt (by omega)]; exact hI.stop (by omega) (by omega))
  have hsm := rdv_small hr
  have hu : unz (z + (s[a.toNat + i]'(by omega)).toNat % 128 * 128 ^ i) = (0 : Int) - (((z + (s[a.toNat + i]'(by omega)).toNat % 128 * 128 ^ i) / 2 : Nat) : Int) - 1 := by
   unfold unz
   split <;> omega
  rw [unInt_bad (by omega) (by omega) hr (by
   rw [← hu] at h8 h7
   have h1 := (putErr_unz hsm).1 h7
   have h2 := (not_congr (putInt_unz hr h1)).1 (by rw [List.take_drop]; simpa [Nat.add_assoc] using h8)
   exact .inl (Decidable.not_not.1 h2))]
 try simp only [nrm] at h8
 refine T.skip (TQ.then_normal (T.seq (T.region ?_)))
 refine rdx (rd_move (v := .int _ _) rfl) ?_
 refine rdx (rd_move (v := .int _ _) rfl) ?_
 refine rdx (rd_move (v := .int _ _) rfl) ?_
 refine rdx (rd_add rfl rfl (w64 (by omega) (by omega))) ?_
 refine rdx (rd_add rfl rfl (w64 (by omega) (by omega))) ?_
 refine rdx (rd_assign (v := .int _ _) rfl) ?_
 refine rdx (rd_assign (v := .int _ _) rfl) ?_
 refine rdx (rd_assign (v := .int _ _) rfl) ?_
 refine TO.nil (TQ.then_normal (T.ret (TQ.block_ret (TQ.then_ret (TQ.then_ret (TQ.block_ret (TQ.then_ret ?_)))))))
 refine TQ.value ?_ (res3 Tryz.results96 (Res.tmp (v := .int _ _) rfl) (Res.tmp (v := .int _ _) rfl) (Res.tmp (v := .int _ _) rfl)) _ (.inl rfl)
 obtain ⟨k, rfl⟩ : ∃ j, k = j + 1 := ⟨k - 1, by omega⟩
 have hr := (show rdv 9 (s.drop a.toNat) = some (z + (s[a.toNat + i]'(by omega)).toNat % 128 * 128 ^ i, i, _) from by rw [Nat.mod_eq_of_lt (by omega)]; exact hI.stop (by omega) (by omega))
 have hsm := rdv_small hr
 have hu : unz (z + (s[a.toNat + i]'(by omega)).toNat % 128 * 128 ^ i) = (0 : Int) - (((z + (s[a.toNat + i]'(by omega)).toNat % 128 * 128 ^ i) / 2 : Nat) : Int) - 1 := by
  unfold unz
  split <;> omega
 rw [unInt_ok (by omega) (by omega) hr (by
  rw [← hu] at h8 h7
  have h1 := (putErr_unz hsm).1 h7
  have h2 := (putInt_unz hr h1).1 (by rw [List.take_drop]; simpa [Nat.add_assoc] using h8)
  omega), hu]
end Go.Proofs
end
section
set_option linter.unusedVariables false
set_option linter.unusedSimpArgs false
set_option maxRecDepth 100000
set_option maxHeartbeats 800000
namespace Go.Proofs
open Go.TL
attribute [local irreducible] Go.TL.T Go.TL.TO Go.TL.TQ
theorem c_ref02_rotated (x : UInt32) (n : Nat) (h0 : 0 < n) (h : n < 32) : Cv Tryz.prog 103 #[.int .u32 x.toNat, .int .i64 (n : Nat)] [] (.int .u32 (rotr x n).toNat) := by
 refine Ctr.intro Tryz.func103 rfl Tryz.ntmps103 (Nat.le_of_ble_eq_true rfl) fun S0 w0 => ?_
 refine T.seq (T.region ?_)
 refine rdx (rd_assign (v := .int _ _) rfl) ?_
 refine TO.nil (TQ.then_normal (T.seq ?_))
 refine T.drawq Tryz.mixes 7 [(5, 0), (6, 1), (7, 2), (8, 3), (9, 4), (10, 5), (11, 6)] [0, 0, 3, 0, 0, 16, 56, 127, 255] (by kernel_rfl) ?_
 refine DQ.rd rfl rfl (fun _ => rd_move (v := .int _ _) rfl) ?_
 refine DQ.rd rfl rfl (fun _ => rd_move (v := .int _ _) rfl) ?_
 refine DQ.rd rfl rfl (fun _ => rd_shr32 (k := n) rfl rfl (rfl) (h)) ?_
 refine DQ.rd rfl rfl (fun _ => rd_move (v := .int _ _) rfl) ?_
 refine DQ.rd rfl rfl (fun _ => rd_move (v := .int _ _) rfl) ?_
 refine DQ.rd rfl rfl (fun _ => rd_sub rfl rfl (w64 (by omega) (by omega))) ?_
 refine DQ.rd rfl rfl (fun _ => rd_shl32 (k := (32 - n)) rfl rfl (by omega) (by omega)) ?_
 refine DQ.done rfl ?_
 refine rdx (rd_or32 rfl rfl) ?_
 refine rdx (rd_assign (v := .int _ _) rfl) ?_
 refine TO.nil (TQ.then_normal (T.ret ?_))
 refine TQ.value ?_ (res1 Tryz.results103 (Res.tmp (v := .int _ _) rfl)) _ (.inl rfl)
 rfl
theorem c_ref02_constants  : Ctr Tryz.prog 104 #[] [] [] (γ := Option Addr × Nat) (fun x => True) (fun x => .slice x.1 64 x.2) (fun x => [row 137 1 x.1 64 x.2 (shaK.flatMap eW)]) := by
 refine Ctr.intro Tryz.func104 rfl Tryz.ntmps104 (Nat.le_of_ble_eq_true rfl) fun S0 w0 => ?_
 refine T.seq (T.region ?_)
 refine rdx (rd_assign (v := .slice _ _ _) rfl) ?_
 refine TO.nil (TQ.then_normal (T.seq (T.region ?_)))
 refine TO.buildS (cs := [.int .u32 1116352408, .int .u32 1899447441, .int .u32 3049323471, .int .u32 3921009573, .int .u32 961987163, .int .u32 1508970993, .int .u32 2453635748, .int .u32 2870763221, .int .u32 3624381080, .int .u32 310598401, .int .u32 607225278, .int .u32 1426881987, .int .u32 1925078388, .int .u32 2162078206, .int .u32 2614888103, .int .u32 3248222580, .int .u32 3835390401, .int .u32 4022224774, .int .u32 264347078, .int .u32 604807628, .int .u32 770255983, .int .u32 1249150122, .int .u32 1555081692, .int .u32 1996064986, .int .u32 2554220882, .int .u32 2821834349, .int .u32 2952996808, .int .u32 3210313671, .int .u32 3336571891, .int .u32 3584528711, .int .u32 113926993, .int .u32 338241895, .int .u32 666307205, .int .u32 773529912, .int .u32 1294757372, .int .u32 1396182291, .int .u32 1695183700, .int .u32 1986661051, .int .u32 2177026350, .int .u32 2456956037, .int .u32 2730485921, .int .u32 2820302411, .int .u32 3259730800, .int .u32 3345764771, .int .u32 3516065817, .int .u32 3600352804, .int .u32 4094571909, .int .u32 275423344, .int .u32 430227734, .int .u32 506948616, .int .u32 659060556, .int .u32 883997877, .int .u32 958139571, .int .u32 1322822218, .int .u32 1537002063, .int .u32 1747873779, .int .u32 1955562222, .int .u32 2024104815, .int .u32 2227730452, .int .u32 2361852424, .int .u32 2428436474, .int .u32 2756734187, .int .u32 3204031479, .int .u32 3329325298]) Tryz.under138 Tryz.size137 Tryz.zero137 (Nat.le_of_ble_eq_true rfl) (by kernel_rfl) (fun b1 => ?_)
 refine rdx (rd_assign (v := .slice _ _ _) rfl) ?_
 refine TO.nil (TQ.then_normal (T.ret ?_))
 refine TQ.done ((some ⟨b1, 0, none⟩, 64)) (trivial) ?_ (fun _ _ => seps_lit 0 1 64 rfl rfl (by decide) (by kernel_rfl)) (res1 Tryz.results104 (Res.tmp (v := .slice _ _ _) rfl)) _ (.inl rfl)
 rfl
theorem c_ref02_extended (s : Bytes) (hs : s.length ≤ 1000000000000) : Ctr Tryz.prog 97 #[.string (str s)] [] [] (γ := Option Addr × Nat) (fun x => (pad s).length ≤ x.2) (fun x => .slice x.1 (pad s).length x.2) (fun x => [row 5 1 x.1 (pad s).length x.2 (bytesC (pad s))]) := by
 refine Ctr.intro Tryz.func97 rfl Tryz.ntmps97 (Nat.le_of_ble_eq_true rfl) fun S0 w0 => ?_
 refine T.seq (T.region ?_)
 refine rdx (rd_assign (v := .slice none 0 0) rfl) ?_
 refine TO.newrow 5 1 ?_
 refine TO.nil (TQ.then_normal (T.seq (T.region ?_)))
 refine rdx (rd_assign (v := .slice none 0 0) rfl) ?_
 refine TO.newrow 5 1 ?_
 refine TO.nil (TQ.then_normal (T.seq (T.seq (T.region ?_))))
 refine rdx (rd_assign (v := .int _ _) rfl) ?_
 refine TO.nil (TQ.then_normal (T.block ?_))
 refine T.loop3 [0] (fun (A : Option Addr) (cap : Nat) (k : Nat) => [(3, .slice A k cap), (4, .int .i64 (k : Nat))]) (fun (A : Option Addr) (cap : Nat) (k : Nat) => [row 5 1 A k cap (bytesC (s.take k))]) (fun (A : Option Addr) (cap : Nat) (k : Nat) => k ≤ s.length) (fun (A : Option Addr) (cap : Nat) (k : Nat) => s.length - k) (none) (0) (0) (Nat.zero_le _) (And.intro (rfl) (And.intro (rfl) (trivial))) (fun _ _ h => h) fun A cap k g0 hx0 => ?_
 refine T.seq (T.seq (T.region ?_))
 refine rdx (rd_move (v := .int _ _) rfl) ?_
 refine rdx (rd_move (v := .string _) rfl) ?_
 refine rdx (rd_lens' Tryz.under9 rfl) ?_
 refine rdx (rd_lss rfl rfl) ?_
 refine TO.nil (TQ.then_normal ?_)
 refine T.cond rfl (fun h3 => ?_) (fun h3 => ?_)
 ·try simp only [nrm] at h3
  refine T.skip (TQ.then_normal (T.seq (T.block (T.region ?_))))
  refine rdx (rd_move (v := .slice _ _ _) rfl) ?_
  refine rdx (rd_move (v := .string _) rfl) ?_
  refine rdx (rd_move (v := .int _ _) rfl) ?_
  refine rdx (rd_idxs Tryz.under9 rfl rfl rfl (by omega)) ?_
  refine TO.buildS (cs := [.int _ _]) Tryz.under62 Tryz.size5 Tryz.zero5 (Nat.le_of_ble_eq_true rfl) rfl (fun b4 => ?_)
  refine TO.front1 ?_
  refine TO.app Tryz.trow5 Tryz.under62 (.inl ⟨_, Tryz.under62⟩) rfl rfl (Src.own1 1 rfl rfl) rfl rfl (by omega) (fun A5 c6 hc7 => ?_)
  refine TO.row_eq (cs' := bytesC (s.take (k + 1))) rfl (by rw [← take_snoc (by omega), bytesC_append]; rfl) ?_
  refine rdx (rd_assign (v := .slice _ _ _) rfl) ?_
  refine TO.nil (TQ.block_normal (TQ.then_normal (T.region ?_)))
  refine rdx (rd_move (v := .int _ _) rfl) ?_
  refine rdx (rd_add rfl rfl (w64 (by omega) (by omega))) ?_
  refine rdx (rd_assign (v := .int _ _) rfl) ?_
  refine TO.nil ?_
  refine TQ.againk (A5, c6, k + 1) ?_ ?_ (And.intro (rfl) (And.intro (rfl) (trivial))) (And.intro (rfl) (trivial)) (fun _ _ h => h.sel (js := [0, 2]) (by decide))
  ·first | omega | (dsimp only; omega)
  ·first | omega | (dsimp only; omega)
 try simp only [nrm] at h3
 refine T.exit (TQ.then_exit (TQ.then_exit (TQ.block_out (TQ.then_normal (T.seq (T.region ?_))))))
 refine rdx (rd_move (v := .slice _ _ _) rfl) ?_
 refine TO.buildS (cs := [.int _ _]) Tryz.under62 Tryz.size5 Tryz.zero5 (Nat.le_of_ble_eq_true rfl) rfl (fun b8 => ?_)
 refine TO.front1 ?_
 refine TO.app Tryz.trow5 Tryz.under62 (.inl ⟨_, Tryz.under62⟩) rfl rfl (Src.own1 1 rfl rfl) rfl rfl (by omega) (fun A9 c10 hc11 => ?_)
 refine TO.row_eq (cs' := bytesC (s ++ [128] ++ List.replicate 0 0)) rfl (by rw [List.take_of_length_le (by omega)]; simp [bytesC_append]; rfl) ?_
 refine rdx (rd_assign (v := .slice _ _ _) rfl) ?_
 refine TO.nil (TQ.then_normal (T.seq (T.block ?_)))
 refine T.loop4 [0] (fun (A : Option Addr) (cap : Nat) (m : Nat) (j : Nat) => [(3, .slice A m cap)]) (fun (A : Option Addr) (cap : Nat) (m : Nat) (j : Nat) => [row 5 1 A m cap (bytesC (s ++ [128] ++ List.replicate j 0))]) (fun (A : Option Addr) (cap : Nat) (m : Nat) (j : Nat) => m = s.length + 1 + j ∧ j ≤ zeros s.length ∧ m ≤ cap) (fun (A : Option Addr) (cap : Nat) (m : Nat) (j : Nat) => zeros s.length - j) (A9) (c10) (k + 1) (0) (⟨by omega, Nat.zero_le _, by omega⟩) (And.intro (rfl) (trivial)) (fun _ _ h => h) fun A cap m j g1 hx1 => ?_
 obtain ⟨hm, hj, hmc⟩ := hx1
 have hz63 : zeros s.length ≤ 63 := by simp only [zeros]; omega
 refine T.seq (T.seq (T.region ?_))
 refine rdx (rd_move (v := .slice _ _ _) rfl) ?_
 refine rdx (rd_lensl Tryz.under62 rfl) ?_
 refine rdx (rd_remn (m := 64) rfl rfl rfl (by decide)) ?_
 refine rdx (rd_neq rfl rfl) ?_
 refine TO.nil (TQ.then_normal ?_)
 refine T.cond rfl (fun h12 => ?_) (fun h12 => ?_)
 ·try simp only [nrm] at h12
  refine T.skip (TQ.then_normal (T.block (T.region ?_)))
  refine rdx (rd_move (v := .slice _ _ _) rfl) ?_
  refine TO.buildS (cs := [.int _ _]) Tryz.under62 Tryz.size5 Tryz.zero5 (Nat.le_of_ble_eq_true rfl) rfl (fun b13 => ?_)
  refine TO.front1 ?_
  refine TO.app Tryz.trow5 Tryz.under62 (.inl ⟨_, Tryz.under62⟩) rfl rfl (Src.own1 1 rfl rfl) rfl rfl (by omega) (fun A14 c15 hc16 => ?_)
  refine TO.row_eq (cs' := bytesC (s ++ [128] ++ List.replicate (j + 1) 0)) rfl (by rw [List.replicate_succ', ← List.append_assoc]; exact (bytesC_append (s ++ [128] ++ List.replicate j 0) [0]).symm) ?_
  refine rdx (rd_assign (v := .slice _ _ _) rfl) ?_
  refine TO.nil (TQ.block_normal ?_)
  refine TQ.againk (A14, c15, m + 1, j + 1) ?_ ?_ (And.intro (rfl) (trivial)) (And.intro (rfl) (trivial)) (fun _ _ h => h.sel (js := [0, 2, 3]) (by decide))
  ·refine ⟨?_, ?_, ?_⟩ <;> dsimp only <;> (try simp only [zeros] at *) <;> omega
  ·(try simp only [zeros] at *); omega
 try simp only [nrm] at h12
 refine T.exit (TQ.then_exit (TQ.then_exit (TQ.block_out (TQ.then_normal (T.seq (T.seq (T.region ?_)))))))
 refine rdx (rd_assign (v := .int _ _) rfl) ?_
 refine TO.nil (TQ.then_normal (T.block ?_))
 refine T.loop5 [0] (fun (A : Option Addr) (cap : Nat) (m : Nat) (l : Bytes) (i : Nat) => [(3, .slice A m cap), (5, .int .i64 ((i : Int) - 1))]) (fun (A : Option Addr) (cap : Nat) (m : Nat) (l : Bytes) (i : Nat) => [row 5 1 A m cap (bytesC l)]) (fun (A : Option Addr) (cap : Nat) (m : Nat) (l : Bytes) (i : Nat) => l ++ len8 s.length i = pad s ∧ m = l.length ∧ i ≤ 8 ∧ m ≤ cap) (fun (A : Option Addr) (cap : Nat) (m : Nat) (l : Bytes) (i : Nat) => i) (A) (cap) (m) (s ++ [128] ++ List.replicate j 0) (8) (⟨by rw [pad, show zeros s.length = j by simp only [zeros] at *; omega], by simp; omega, by omega, by omega⟩) (And.intro (rfl) (And.intro (rfl) (trivial))) (fun _ _ h => h) fun A cap m l i g2 hx2 => ?_
 obtain ⟨hl, hml, hi, hmc⟩ := hx2
 have hm2 : m ≤ s.length + 72 := by
  have := congrArg List.length hl
  simp only [pad, List.length_append, len8_len, List.length_replicate, List.length_cons, List.length_nil] at this
  omega
 refine T.seq (T.seq (T.region ?_))
 refine rdx (rd_move (v := .int _ _) rfl) ?_
 refine rdx (rd_geq rfl rfl) ?_
 refine TO.nil (TQ.then_normal ?_)
 refine T.cond_ft rfl (fun h17 => ?_) (fun h17 => ?_)
 ·try simp only [nrm] at h17
  refine T.exit (TQ.then_exit (TQ.then_exit (TQ.block_out (TQ.then_normal (T.seq (T.region ?_))))))
  refine rdx (rd_move (v := .slice _ _ _) rfl) ?_
  refine rdx (rd_assign (v := .slice _ _ _) rfl) ?_
  refine TO.nil (TQ.then_normal (T.ret ?_))
  refine TQ.done ((A, cap)) (by rw [← hl, show i = 0 by omega]; simp only [len8, List.append_nil]; omega) ?_ (fun _ _ => seps_row 0 rfl (by rw [← hl, show i = 0 by omega]; simpa [len8] using hml) (by rw [← hl, show i = 0 by omega]; simp [len8])) (res1 Tryz.results97 (Res.tmp (v := .slice _ _ _) rfl)) _ (.inl rfl)
  rw [← hl, show i = 0 by omega]; simp [len8, hml]
 try simp only [nrm] at h17
 refine T.skip (TQ.then_normal (T.seq (T.block (T.region ?_))))
 refine rdx (rd_move (v := .slice _ _ _) rfl) ?_
 refine rdx (rd_move (v := .string _) rfl) ?_
 refine rdx (rd_lens' Tryz.under9 rfl) ?_
 refine rdx (rd_mul rfl rfl (w64 (by omega) (by omega))) ?_
 refine rdx (rd_move (v := .int _ _) rfl) ?_
 refine rdx (rd_mul rfl rfl (w64 (by omega) (by omega))) ?_
 refine rdx (rd_shr rfl rfl (by omega) (fdiv_pow (a := 8 * s.length) (q := 8 * (i - 1)) (by omega) (by omega))) ?_
 refine rdx (rd_convert Tryz.isome3 Tryz.under5 rfl (wrap_u8 _)) ?_
 refine TO.buildS (cs := [.int _ _]) Tryz.under62 Tryz.size5 Tryz.zero5 (Nat.le_of_ble_eq_true rfl) rfl (fun b18 => ?_)
 refine TO.front1 ?_
 refine TO.app Tryz.trow5 Tryz.under62 (.inl ⟨_, Tryz.under62⟩) rfl rfl (Src.own1 1 rfl rfl) rfl rfl (by omega) (fun A19 c20 hc21 => ?_)
 refine TO.row_eq (cs' := bytesC (l ++ [UInt8.ofNat (8 * s.length / 2 ^ (8 * (i - 1)))])) rfl (by rw [bytesC_append]; simp [bytesC, UInt8.toNat_ofNat']) ?_
 refine rdx (rd_assign (v := .slice _ _ _) rfl) ?_
 refine TO.nil (TQ.block_normal (TQ.then_normal (T.region ?_)))
 refine rdx (rd_move (v := .int _ _) rfl) ?_
 refine rdx (rd_sub rfl rfl (w64 (by omega) (by omega))) ?_
 refine rdx (rd_assign (v := .int _ _) rfl) ?_
 refine TO.nil ?_
 refine TQ.againk (A19, c20, m + 1, l ++ [UInt8.ofNat (8 * s.length / 2 ^ (8 * (i - 1)))], i - 1) ?_ ?_ (And.intro (rfl) (And.intro (congrArg (Value.int .i64) (by first | omega | (dsimp only; omega))) (trivial))) (And.intro (rfl) (trivial)) (fun _ _ h => h.sel (js := [0, 2, 3]) (by decide))
 ·refine ⟨?_, by simp; omega, by dsimp only; omega, by dsimp only; omega⟩
  rw [← hl]
  obtain ⟨q, rfl⟩ : ∃ q, i = q + 1 := ⟨i - 1, by omega⟩
  simp [len8_succ]
 ·first | omega | (dsimp only; omega)
end Go.Proofs
end
section
set_option linter.unusedVariables false
set_option linter.unusedSimpArgs false
set_option maxRecDepth 100000
set_option maxHeartbeats 800000
namespace Go.Proofs
open Go.TL
attribute [local irreducible] Go.TL.T Go.TL.TO Go.TL.TQ
theorem c_ref02_block (A : Option Addr) (cap n : Nat) (l : List UInt32) (hn : n = l.length) (B : Option Addr) (capb m : Nat) (b : List UInt8) (hm : m = b.length) (h : H8) (hh : l = h.l) (hb : b.length = 64) : Ctr Tryz.prog 98 #[.slice A n cap, .slice B m capb] [slc eW 1 A l, slc eByte 1 B b] [] (γ := Option Addr × Nat) (fun x => True) (fun x => .slice x.1 8 x.2) (fun x => [row 137 1 x.1 8 x.2 ((shaBlock h b).l.flatMap eW)]) := by
 subst hn hm hh
 have hl8 : h.l.length = 8 := rfl
 refine Ctr.intro Tryz.func98 rfl Tryz.ntmps98 (Nat.le_of_ble_eq_true rfl) fun S0 w0 => ?_
 refine T.seq (T.region ?_)
 refine rdx (rd_assign (v := .slice none 0 0) rfl) ?_
 refine TO.newrow 137 1 ?_
 refine TO.nil (TQ.then_normal (T.seq (T.region ?_)))
 refine rdx (rd_assign (v := .slice none 0 0) rfl) ?_
 refine TO.newrow 137 1 ?_
 refine TO.nil (TQ.then_normal (T.seq (T.seq (T.region ?_))))
 refine rdx (rd_assign (v := .int _ _) rfl) ?_
 refine TO.nil (TQ.then_normal (T.block ?_))
 refine T.loop3 [0, 1] (fun (A1 : Option Addr) (cap1 : Nat) (k : Nat) => [(5, .slice A1 k cap1), (6, .int .i64 (k : Nat))]) (fun (A1 : Option Addr) (cap1 : Nat) (k : Nat) => [row 137 1 A1 k cap1 ((w16 b k).flatMap eW)]) (fun (A1 : Option Addr) (cap1 : Nat) (k : Nat) => k ≤ 16) (fun (A1 : Option Addr) (cap1 : Nat) (k : Nat) => 16 - k) (none) (0) (0) (Nat.zero_le _) (And.intro (rfl) (And.intro (rfl) (trivial))) (fun _ _ h => h) fun A1 cap1 k g0 hx0 => ?_
 refine T.seq (T.seq (T.region ?_))
 refine rdx (rd_move (v := .int _ _) rfl) ?_
 refine rdx (rd_lss rfl rfl) ?_
 refine TO.nil (TQ.then_normal ?_)
 refine T.cond rfl (fun h3 => ?_) (fun h3 => ?_)
 ·try simp only [nrm] at h3
  refine T.skip (TQ.then_normal (T.seq (T.block ?_)))
  refine T.drawg Tryz.mixes 35 [(23, 0), (24, 1), (25, 2), (26, 3), (27, 4), (28, 5), (29, 6), (30, 7), (31, 8), (32, 9), (33, 10), (34, 11), (35, 12), (36, 13), (37, 14), (38, 15), (39, 16), (40, 17), (41, 18), (42, 19), (43, 20), (44, 21), (45, 22), (46, 23), (47, 24), (48, 25), (49, 26), (50, 27), (51, 28), (52, 29), (53, 30), (54, 31), (55, 32), (56, 33), (57, 34)] [0, 0, 0, 4, 14, 30, 62, 126, 0, 0, 512, 1536, 3840, 7936, 16128, 32512, 65534, 0, 0, 262144, 786432, 1966080, 4063232, 8257536, 16646144, 33554430, 0, 0, 134217728, 402653184, 1006632960, 2080374784, 4227858432, 8589934590, 17179869182, 34359738367, 68719476735] [34] (by kernel_rfl) ?_
  refine DG.rd rfl rfl rfl (fun _ _ => rd_move (v := .slice _ _ _) rfl) ?_
  refine DG.rd rfl rfl rfl (fun _ _ => rd_move (v := .slice _ _ _) rfl) ?_
  refine DG.rd rfl rfl rfl (fun _ _ => rd_move (v := .int _ _) rfl) ?_
  refine DG.rd rfl rfl rfl (fun _ _ => rd_mul rfl rfl (w64 (by first | omega | ((try simp only [H8.len, shaK_len, sched_len, w16_len, List.length_take] at *); omega)) (by first | omega | ((try simp only [H8.len, shaK_len, sched_len, w16_len, List.length_take] at *); omega)))) ?_
  refine DG.rd rfl rfl rfl (fun _ _ => rd_ix (k := (4 * k)) Tryz.under62 Tryz.size5 rfl rfl (Has.arg 1 rfl) (by omega) (by first | omega | ((try simp only [H8.len, shaK_len, sched_len, w16_len, List.length_take] at *); omega)) (by omega)) ?_
  refine DG.rd rfl rfl rfl (fun _ _ => rd_el (v := .int _ _) (4 * k) 0 Tryz.one5 rfl (Has.arg 1 rfl) rfl (by first | omega | ((try simp only [H8.len, shaK_len, sched_len, w16_len, List.length_take] at *); omega)) (Nat.le_of_ble_eq_true rfl) rfl) ?_
  refine DG.rd rfl rfl rfl (fun _ _ => rd_conv8_32 Tryz.isome5 Tryz.under137 rfl) ?_
  refine DG.rd rfl rfl rfl (fun _ _ => rd_shl32 (k := 24) rfl rfl (rfl) (by decide)) ?_
  refine DG.rd rfl rfl rfl (fun _ _ => rd_move (v := .slice _ _ _) rfl) ?_
  refine DG.rd rfl rfl rfl (fun _ _ => rd_move (v := .int _ _) rfl) ?_
  refine DG.rd rfl rfl rfl (fun _ _ => rd_mul rfl rfl (w64 (by first | omega | ((try simp only [H8.len, shaK_len, sched_len, w16_len, List.length_take] at *); omega)) (by first | omega | ((try simp only [H8.len, shaK_len, sched_len, w16_len, List.length_take] at *); omega)))) ?_
  refine DG.rd rfl rfl rfl (fun _ _ => rd_add rfl rfl (w64 (by first | omega | ((try simp only [H8.len, shaK_len, sched_len, w16_len, List.length_take] at *); omega)) (by first | omega | ((try simp only [H8.len, shaK_len, sched_len, w16_len, List.length_take] at *); omega)))) ?_
  refine DG.rd rfl rfl rfl (fun _ _ => rd_ix (k := (4 * k + 1)) Tryz.under62 Tryz.size5 rfl rfl (Has.arg 1 rfl) (by omega) (by first | omega | ((try simp only [H8.len, shaK_len, sched_len, w16_len, List.length_take] at *); omega)) (by omega)) ?_
  refine DG.rd rfl rfl rfl (fun _ _ => rd_el (v := .int _ _) (4 * k + 1) 0 Tryz.one5 rfl (Has.arg 1 rfl) rfl (by first | omega | ((try simp only [H8.len, shaK_len, sched_len, w16_len, List.length_take] at *); omega)) (Nat.le_of_ble_eq_true rfl) rfl) ?_
  refine DG.rd rfl rfl rfl (fun _ _ => rd_conv8_32 Tryz.isome5 Tryz.under137 rfl) ?_
  refine DG.rd rfl rfl rfl (fun _ _ => rd_shl32 (k := 16) rfl rfl (rfl) (by decide)) ?_
  refine DG.rd rfl rfl rfl (fun _ _ => rd_or32 rfl rfl) ?_
  refine DG.rd rfl rfl rfl (fun _ _ => rd_move (v := .slice _ _ _) rfl) ?_
  refine DG.rd rfl rfl rfl (fun _ _ => rd_move (v := .int _ _) rfl) ?_
  refine DG.rd rfl rfl rfl (fun _ _ => rd_mul rfl rfl (w64 (by first | omega | ((try simp only [H8.len, shaK_len, sched_len, w16_len, List.length_take] at *); omega)) (by first | omega | ((try simp only [H8.len, shaK_len, sched_len, w16_len, List.length_take] at *); omega)))) ?_
  refine DG.rd rfl rfl rfl (fun _ _ => rd_add rfl rfl (w64 (by first | omega | ((try simp only [H8.len, shaK_len, sched_len, w16_len, List.length_take] at *); omega)) (by first | omega | ((try simp only [H8.len, shaK_len, sched_len, w16_len, List.length_take] at *); omega)))) ?_
  refine DG.rd rfl rfl rfl (fun _ _ => rd_ix (k := (4 * k + 2)) Tryz.under62 Tryz.size5 rfl rfl (Has.arg 1 rfl) (by omega) (by first | omega | ((try simp only [H8.len, shaK_len, sched_len, w16_len, List.length_take] at *); omega)) (by omega)) ?_
  refine DG.rd rfl rfl rfl (fun _ _ => rd_el (v := .int _ _) (4 * k + 2) 0 Tryz.one5 rfl (Has.arg 1 rfl) rfl (by first | omega | ((try simp only [H8.len, shaK_len, sched_len, w16_len, List.length_take] at *); omega)) (Nat.le_of_ble_eq_true rfl) rfl) ?_
  refine DG.rd rfl rfl rfl (fun _ _ => rd_conv8_32 Tryz.isome5 Tryz.under137 rfl) ?_
  refine DG.rd rfl rfl rfl (fun _ _ => rd_shl32 (k := 8) rfl rfl (rfl) (by decide)) ?_
  refine DG.rd rfl rfl rfl (fun _ _ => rd_or32 rfl rfl) ?_
  refine DG.rd rfl rfl rfl (fun _ _ => rd_move (v := .slice _ _ _) rfl) ?_
  refine DG.rd rfl rfl rfl (fun _ _ => rd_move (v := .int _ _) rfl) ?_
  refine DG.rd rfl rfl rfl (fun _ _ => rd_mul rfl rfl (w64 (by first | omega | ((try simp only [H8.len, shaK_len, sched_len, w16_len, List.length_take] at *); omega)) (by first | omega | ((try simp only [H8.len, shaK_len, sched_len, w16_len, List.length_take] at *); omega)))) ?_
  refine DG.rd rfl rfl rfl (fun _ _ => rd_add rfl rfl (w64 (by first | omega | ((try simp only [H8.len, shaK_len, sched_len, w16_len, List.length_take] at *); omega)) (by first | omega | ((try simp only [H8.len, shaK_len, sched_len, w16_len, List.length_take] at *); omega)))) ?_
  refine DG.rd rfl rfl rfl (fun _ _ => rd_ix (k := (4 * k + 3)) Tryz.under62 Tryz.size5 rfl rfl (Has.arg 1 rfl) (by omega) (by first | omega | ((try simp only [H8.len, shaK_len, sched_len, w16_len, List.length_take] at *); omega)) (by omega)) ?_
  refine DG.rd rfl rfl rfl (fun _ _ => rd_el (v := .int _ _) (4 * k + 3) 0 Tryz.one5 rfl (Has.arg 1 rfl) rfl (by first | omega | ((try simp only [H8.len, shaK_len, sched_len, w16_len, List.length_take] at *); omega)) (Nat.le_of_ble_eq_true rfl) rfl) ?_
  refine DG.rd rfl rfl rfl (fun _ _ => rd_conv8_32 Tryz.isome5 Tryz.under137 rfl) ?_
  refine DG.rd rfl rfl rfl (fun _ _ => rd_or32 rfl rfl) ?_
  refine DG.buildS (cs := [.int _ _]) rfl rfl Tryz.under138 Tryz.size137 Tryz.zero137 (Nat.le_of_ble_eq_true rfl) (fun _ _ => rfl) ?_
  refine DG.done rfl (by decide) rfl (fun gh5 => ?_)
  refine TO.front1 ?_
  refine TO.app Tryz.trow137 Tryz.under138 (.inl ⟨_, Tryz.under138⟩) rfl rfl (Src.own1 1 rfl rfl) rfl rfl (by first | omega | (have := H8.len h; omega)) (fun A6 c7 hc8 => ?_)
  refine TO.row_eq (cs' := (w16 b (k + 1)).flatMap eW) rfl (by rw [w16_succ, List.flatMap_append, wordAt_get (by omega)]; rfl) ?_
  refine rdx (rd_assign (v := .slice _ _ _) rfl) ?_
  refine TO.nil (TQ.block_normal (TQ.then_normal (T.region ?_)))
  refine rdx (rd_move (v := .int _ _) rfl) ?_
  refine rdx (rd_add rfl rfl (w64 (by first | omega | ((try simp only [H8.len, shaK_len, sched_len, w16_len, List.length_take] at *); omega)) (by first | omega | ((try simp only [H8.len, shaK_len, sched_len, w16_len, List.length_take] at *); omega)))) ?_
  refine rdx (rd_assign (v := .int _ _) rfl) ?_
  refine TO.nil ?_
  refine TQ.againk (A6, c7, k + 1) ?_ ?_ (And.intro (rfl) (And.intro (rfl) (trivial))) (And.intro (rfl) (And.intro (rfl) (trivial))) (fun _ _ h => h.sel (js := [0, 2]) (by decide))
  ·first | omega | (dsimp only; omega)
  ·first | omega | (dsimp only; omega)
 try simp only [nrm] at h3
 refine T.exit (TQ.then_exit (TQ.then_exit (TQ.block_out (TQ.then_normal (T.seq (T.seq (T.region ?_)))))))
 refine rdx (rd_assign (v := .int _ _) rfl) ?_
 refine TO.nil (TQ.then_normal (T.block ?_))
 obtain rfl : k = 16 := by omega
 refine T.loop4 [0] (fun (A1 : Option Addr) (cap1 : Nat) (k : Nat) (wd : List UInt32) => [(5, .slice A1 k cap1), (7, .int .i64 (k : Nat))]) (fun (A1 : Option Addr) (cap1 : Nat) (k : Nat) (wd : List UInt32) => [row 137 1 A1 k cap1 (wd.flatMap eW)]) (fun (A1 : Option Addr) (cap1 : Nat) (k : Nat) (wd : List UInt32) => wd.length = k ∧ k ≤ 64 ∧ wext (64 - k) wd = sched b ∧ 16 ≤ k) (fun (A1 : Option Addr) (cap1 : Nat) (k : Nat) (wd : List UInt32) => 64 - k) (A1) (cap1) (16) (w16 b 16) (⟨w16_len _ _, by decide, rfl, by decide⟩) (And.intro (rfl) (And.intro (rfl) (trivial))) (fun _ _ h => h) fun A1 cap1 k wd g1 hx1 => ?_
 obtain ⟨hwl, hk, hw, hk16⟩ := hx1
 refine T.seq (T.seq (T.region ?_))
 refine rdx (rd_move (v := .int _ _) rfl) ?_
 refine rdx (rd_lss rfl rfl) ?_
 refine TO.nil (TQ.then_normal ?_)
 refine T.cond rfl (fun h9 => ?_) (fun h9 => ?_)
 ·try simp only [nrm] at h9
  refine T.skip (TQ.then_normal (T.seq (T.block (T.seq ?_))))
  refine T.drawq Tryz.mixes 19 [(63, 0), (64, 1), (65, 2), (66, 3), (67, 4), (68, 5), (69, 6), (70, 7), (71, 8), (72, 9), (73, 10), (74, 11), (75, 12), (76, 13), (77, 14), (78, 15), (79, 16), (80, 17), (81, 18)] [0, 0, 2, 7, 15, 31, 0, 0, 128, 448, 960, 2047, 4095, 0, 0, 16384, 57344, 122880, 253952, 524287, 1048575] (by kernel_rfl) ?_
  refine DQ.rd rfl rfl (fun _ => rd_move (v := .slice _ _ _) rfl) ?_
  refine DQ.rd rfl rfl (fun _ => rd_move (v := .int _ _) rfl) ?_
  refine DQ.rd rfl rfl (fun _ => rd_sub rfl rfl (w64 (by first | omega | ((try simp only [H8.len, shaK_len, sched_len, w16_len, List.length_take] at *); omega)) (by first | omega | ((try simp only [H8.len, shaK_len, sched_len, w16_len, List.length_take] at *); omega)))) ?_
  refine DQ.rd rfl rfl (fun _ => rd_ix (k := (k - 15)) Tryz.under138 Tryz.size137 rfl rfl (row_slc' (e := eW) (xs := wd) (fun _ => rfl) (by first | rfl | omega | simp) (rfl) (Has.own 0 rfl)) (by omega) (by first | omega | ((try simp only [H8.len, shaK_len, sched_len, w16_len, List.length_take] at *); omega)) (by omega)) ?_
  refine DQ.rd rfl rfl (fun _ => rd_el (v := .int _ _) (k - 15) 0 Tryz.one137 rfl (row_slc' (e := eW) (xs := wd) (fun _ => rfl) (by first | rfl | omega | simp) (rfl) (Has.own 0 rfl)) rfl (by first | omega | ((try simp only [H8.len, shaK_len, sched_len, w16_len, List.length_take] at *); omega)) (Nat.le_of_ble_eq_true rfl) rfl) ?_
  refine DQ.fn rfl Tryz.enters103 (c_ref02_rotated _ 7 (by decide) (by decide)) (fun _ => rfl) Reads0 ?_
  refine DQ.rd rfl rfl (fun _ => rd_move (v := .slice _ _ _) rfl) ?_
  refine DQ.rd rfl rfl (fun _ => rd_move (v := .int _ _) rfl) ?_
  refine DQ.rd rfl rfl (fun _ => rd_sub rfl rfl (w64 (by first | omega | ((try simp only [H8.len, shaK_len, sched_len, w16_len, List.length_take] at *); omega)) (by first | omega | ((try simp only [H8.len, shaK_len, sched_len, w16_len, List.length_take] at *); omega)))) ?_
  refine DQ.rd rfl rfl (fun _ => rd_ix (k := (k - 15)) Tryz.under138 Tryz.size137 rfl rfl (row_slc' (e := eW) (xs := wd) (fun _ => rfl) (by first | rfl | omega | simp) (rfl) (Has.own 0 rfl)) (by omega) (by first | omega | ((try simp only [H8.len, shaK_len, sched_len, w16_len, List.length_take] at *); omega)) (by omega)) ?_
  refine DQ.rd rfl rfl (fun _ => rd_el (v := .int _ _) (k - 15) 0 Tryz.one137 rfl (row_slc' (e := eW) (xs := wd) (fun _ => rfl) (by first | rfl | omega | simp) (rfl) (Has.own 0 rfl)) rfl (by first | omega | ((try simp only [H8.len, shaK_len, sched_len, w16_len, List.length_take] at *); omega)) (Nat.le_of_ble_eq_true rfl) rfl) ?_
  refine DQ.fn rfl Tryz.enters103 (c_ref02_rotated _ 18 (by decide) (by decide)) (fun _ => rfl) Reads0 ?_
  refine DQ.rd rfl rfl (fun _ => rd_xor32 rfl rfl) ?_
  refine DQ.rd rfl rfl (fun _ => rd_move (v := .slice _ _ _) rfl) ?_
  refine DQ.rd rfl rfl (fun _ => rd_move (v := .int _ _) rfl) ?_
  refine DQ.rd rfl rfl (fun _ => rd_sub rfl rfl (w64 (by first | omega | ((try simp only [H8.len, shaK_len, sched_len, w16_len, List.length_take] at *); omega)) (by first | omega | ((try simp only [H8.len, shaK_len, sched_len, w16_len, List.length_take] at *); omega)))) ?_
  refine DQ.rd rfl rfl (fun _ => rd_ix (k := (k - 15)) Tryz.under138 Tryz.size137 rfl rfl (row_slc' (e := eW) (xs := wd) (fun _ => rfl) (by first | rfl | omega | simp) (rfl) (Has.own 0 rfl)) (by omega) (by first | omega | ((try simp only [H8.len, shaK_len, sched_len, w16_len, List.length_take] at *); omega)) (by omega)) ?_
  refine DQ.rd rfl rfl (fun _ => rd_el (v := .int _ _) (k - 15) 0 Tryz.one137 rfl (row_slc' (e := eW) (xs := wd) (fun _ => rfl) (by first | rfl | omega | simp) (rfl) (Has.own 0 rfl)) rfl (by first | omega | ((try simp only [H8.len, shaK_len, sched_len, w16_len, List.length_take] at *); omega)) (Nat.le_of_ble_eq_true rfl) rfl) ?_
  refine DQ.rd rfl rfl (fun _ => rd_shr32 (k := 3) rfl rfl (rfl) (by decide)) ?_
  refine DQ.done rfl ?_
  refine rdx (rd_xor32 rfl rfl) ?_
  refine rdx (rd_assign (v := .int _ _) rfl) ?_
  refine TO.nil (TQ.then_normal (T.seq ?_))
  refine T.drawq Tryz.mixes 19 [(83, 0), (84, 1), (85, 2), (86, 3), (87, 4), (88, 5), (89, 6), (90, 7), (91, 8), (92, 9), (93, 10), (94, 11), (95, 12), (96, 13), (97, 14), (98, 15), (99, 16), (100, 17), (101, 18)] [0, 0, 2, 7, 15, 31, 0, 0, 128, 448, 960, 2047, 4095, 0, 0, 16384, 57344, 122880, 253952, 524287, 1048575] (by kernel_rfl) ?_
  refine DQ.rd rfl rfl (fun _ => rd_move (v := .slice _ _ _) rfl) ?_
  refine DQ.rd rfl rfl (fun _ => rd_move (v := .int _ _) rfl) ?_
  refine DQ.rd rfl rfl (fun _ => rd_sub rfl rfl (w64 (by first | omega | ((try simp only [H8.len, shaK_len, sched_len, w16_len, List.length_take] at *); omega)) (by first | omega | ((try simp only [H8.len, shaK_len, sched_len, w16_len, List.length_take] at *); omega)))) ?_
  refine DQ.rd rfl rfl (fun _ => rd_ix (k := (k - 2)) Tryz.under138 Tryz.size137 rfl rfl (row_slc' (e := eW) (xs := wd) (fun _ => rfl) (by first | rfl | omega | simp) (rfl) (Has.own 0 rfl)) (by omega) (by first | omega | ((try simp only [H8.len, shaK_len, sched_len, w16_len, List.length_take] at *); omega)) (by omega)) ?_
  refine DQ.rd rfl rfl (fun _ => rd_el (v := .int _ _) (k - 2) 0 Tryz.one137 rfl (row_slc' (e := eW) (xs := wd) (fun _ => rfl) (by first | rfl | omega | simp) (rfl) (Has.own 0 rfl)) rfl (by first | omega | ((try simp only [H8.len, shaK_len, sched_len, w16_len, List.length_take] at *); omega)) (Nat.le_of_ble_eq_true rfl) rfl) ?_
  refine DQ.fn rfl Tryz.enters103 (c_ref02_rotated _ 17 (by decide) (by decide)) (fun _ => rfl) Reads0 ?_
  refine DQ.rd rfl rfl (fun _ => rd_move (v := .slice _ _ _) rfl) ?_
  refine DQ.rd rfl rfl (fun _ => rd_move (v := .int _ _) rfl) ?_
  refine DQ.rd rfl rfl (fun _ => rd_sub rfl rfl (w64 (by first | omega | ((try simp only [H8.len, shaK_len, sched_len, w16_len, List.length_take] at *); omega)) (by first | omega | ((try simp only [H8.len, shaK_len, sched_len, w16_len, List.length_take] at *); omega)))) ?_
  refine DQ.rd rfl rfl (fun _ => rd_ix (k := (k - 2)) Tryz.under138 Tryz.size137 rfl rfl (row_slc' (e := eW) (xs := wd) (fun _ => rfl) (by first | rfl | omega | simp) (rfl) (Has.own 0 rfl)) (by omega) (by first | omega | ((try simp only [H8.len, shaK_len, sched_len, w16_len, List.length_take] at *); omega)) (by omega)) ?_
  refine DQ.rd rfl rfl (fun _ => rd_el (v := .int _ _) (k - 2) 0 Tryz.one137 rfl (row_slc' (e := eW) (xs := wd) (fun _ => rfl) (by first | rfl | omega | simp) (rfl) (Has.own 0 rfl)) rfl (by first | omega | ((try simp only [H8.len, shaK_len, sched_len, w16_len, List.length_take] at *); omega)) (Nat.le_of_ble_eq_true rfl) rfl) ?_
  refine DQ.fn rfl Tryz.enters103 (c_ref02_rotated _ 19 (by decide) (by decide)) (fun _ => rfl) Reads0 ?_
  refine DQ.rd rfl rfl (fun _ => rd_xor32 rfl rfl) ?_
  refine DQ.rd rfl rfl (fun _ => rd_move (v := .slice _ _ _) rfl) ?_
  refine DQ.rd rfl rfl (fun _ => rd_move (v := .int _ _) rfl) ?_
  refine DQ.rd rfl rfl (fun _ => rd_sub rfl rfl (w64 (by first | omega | ((try simp only [H8.len, shaK_len, sched_len, w16_len, List.length_take] at *); omega)) (by first | omega | ((try simp only [H8.len, shaK_len, sched_len, w16_len, List.length_take] at *); omega)))) ?_
  refine DQ.rd rfl rfl (fun _ => rd_ix (k := (k - 2)) Tryz.under138 Tryz.size137 rfl rfl (row_slc' (e := eW) (xs := wd) (fun _ => rfl) (by first | rfl | omega | simp) (rfl) (Has.own 0 rfl)) (by omega) (by first | omega | ((try simp only [H8.len, shaK_len, sched_len, w16_len, List.length_take] at *); omega)) (by omega)) ?_
  refine DQ.rd rfl rfl (fun _ => rd_el (v := .int _ _) (k - 2) 0 Tryz.one137 rfl (row_slc' (e := eW) (xs := wd) (fun _ => rfl) (by first | rfl | omega | simp) (rfl) (Has.own 0 rfl)) rfl (by first | omega | ((try simp only [H8.len, shaK_len, sched_len, w16_len, List.length_take] at *); omega)) (Nat.le_of_ble_eq_true rfl) rfl) ?_
  refine DQ.rd rfl rfl (fun _ => rd_shr32 (k := 10) rfl rfl (rfl) (by decide)) ?_
  refine DQ.done rfl ?_
  refine rdx (rd_xor32 rfl rfl) ?_
  refine rdx (rd_assign (v := .int _ _) rfl) ?_
  refine TO.nil (TQ.then_normal ?_)
  refine T.drawg Tryz.mixes 17 [(103, 0), (104, 1), (105, 2), (106, 3), (107, 4), (108, 5), (109, 6), (110, 7), (111, 8), (112, 9), (113, 10), (114, 11), (115, 12), (116, 13), (117, 14), (118, 15), (119, 16)] [0, 0, 0, 4, 14, 30, 0, 126, 0, 0, 512, 1792, 3840, 8190, 0, 32766, 65534, 131071, 262143] [16] (by kernel_rfl) ?_
  refine DG.rd rfl rfl rfl (fun _ _ => rd_move (v := .slice _ _ _) rfl) ?_
  refine DG.rd rfl rfl rfl (fun _ _ => rd_move (v := .slice _ _ _) rfl) ?_
  refine DG.rd rfl rfl rfl (fun _ _ => rd_move (v := .int _ _) rfl) ?_
  refine DG.rd rfl rfl rfl (fun _ _ => rd_sub rfl rfl (w64 (by first | omega | ((try simp only [H8.len, shaK_len, sched_len, w16_len, List.length_take] at *); omega)) (by first | omega | ((try simp only [H8.len, shaK_len, sched_len, w16_len, List.length_take] at *); omega)))) ?_
  refine DG.rd rfl rfl rfl (fun _ _ => rd_ix (k := (k - 16)) Tryz.under138 Tryz.size137 rfl rfl (row_slc' (e := eW) (xs := wd) (fun _ => rfl) (by first | rfl | omega | simp) (rfl) (Has.own 0 rfl)) (by omega) (by first | omega | ((try simp only [H8.len, shaK_len, sched_len, w16_len, List.length_take] at *); omega)) (by omega)) ?_
  refine DG.rd rfl rfl rfl (fun _ _ => rd_el (v := .int _ _) (k - 16) 0 Tryz.one137 rfl (row_slc' (e := eW) (xs := wd) (fun _ => rfl) (by first | rfl | omega | simp) (rfl) (Has.own 0 rfl)) rfl (by first | omega | ((try simp only [H8.len, shaK_len, sched_len, w16_len, List.length_take] at *); omega)) (Nat.le_of_ble_eq_true rfl) rfl) ?_
  refine DG.rd rfl rfl rfl (fun _ _ => rd_move (v := .int _ _) rfl) ?_
  refine DG.rd rfl rfl rfl (fun _ _ => rd_add32 rfl rfl) ?_
  refine DG.rd rfl rfl rfl (fun _ _ => rd_move (v := .slice _ _ _) rfl) ?_
  refine DG.rd rfl rfl rfl (fun _ _ => rd_move (v := .int _ _) rfl) ?_
  refine DG.rd rfl rfl rfl (fun _ _ => rd_sub rfl rfl (w64 (by first | omega | ((try simp only [H8.len, shaK_len, sched_len, w16_len, List.length_take] at *); omega)) (by first | omega | ((try simp only [H8.len, shaK_len, sched_len, w16_len, List.length_take] at *); omega)))) ?_
  refine DG.rd rfl rfl rfl (fun _ _ => rd_ix (k := (k - 7)) Tryz.under138 Tryz.size137 rfl rfl (row_slc' (e := eW) (xs := wd) (fun _ => rfl) (by first | rfl | omega | simp) (rfl) (Has.own 0 rfl)) (by omega) (by first | omega | ((try simp only [H8.len, shaK_len, sched_len, w16_len, List.length_take] at *); omega)) (by omega)) ?_
  refine DG.rd rfl rfl rfl (fun _ _ => rd_el (v := .int _ _) (k - 7) 0 Tryz.one137 rfl (row_slc' (e := eW) (xs := wd) (fun _ => rfl) (by first | rfl | omega | simp) (rfl) (Has.own 0 rfl)) rfl (by first | omega | ((try simp only [H8.len, shaK_len, sched_len, w16_len, List.length_take] at *); omega)) (Nat.le_of_ble_eq_true rfl) rfl) ?_
  refine DG.rd rfl rfl rfl (fun _ _ => rd_add32 rfl rfl) ?_
  refine DG.rd rfl rfl rfl (fun _ _ => rd_move (v := .int _ _) rfl) ?_
  refine DG.rd rfl rfl rfl (fun _ _ => rd_add32 rfl rfl) ?_
  refine DG.buildS (cs := [.int _ _]) rfl rfl Tryz.under138 Tryz.size137 Tryz.zero137 (Nat.le_of_ble_eq_true rfl) (fun _ _ => rfl) ?_
  refine DG.done rfl (by decide) rfl (fun gh11 => ?_)
  refine TO.front1 ?_
  refine TO.app Tryz.trow137 Tryz.under138 (.inl ⟨_, Tryz.under138⟩) rfl rfl (Src.own1 1 rfl rfl) rfl rfl (by first | omega | (have := H8.len h; omega)) (fun A12 c13 hc14 => ?_)
  refine TO.row_eq (cs' := (wd ++ [wnext wd]).flatMap eW) rfl (by rw [List.flatMap_append, wnext_get hwl hk16]; rfl) ?_
  refine rdx (rd_assign (v := .slice _ _ _) rfl) ?_
  refine TO.nil (TQ.block_normal (TQ.then_normal (T.region ?_)))
  refine rdx (rd_move (v := .int _ _) rfl) ?_
  refine rdx (rd_add rfl rfl (w64 (by first | omega | ((try simp only [H8.len, shaK_len, sched_len, w16_len, List.length_take] at *); omega)) (by first | omega | ((try simp only [H8.len, shaK_len, sched_len, w16_len, List.length_take] at *); omega)))) ?_
  refine rdx (rd_assign (v := .int _ _) rfl) ?_
  refine TO.nil ?_
  refine TQ.againk (A12, c13, k + 1, wd ++ [wnext wd]) ?_ ?_ (And.intro (rfl) (And.intro (rfl) (trivial))) (And.intro (rfl) (trivial)) (fun _ _ h => h.sel (js := [0, 2]) (by decide))
  ·refine ⟨by simp; omega, by dsimp only; omega, ?_, by dsimp only; omega⟩
   rw [← hw, show 64 - k = (64 - (k + 1)) + 1 by omega]
   rfl
  ·first | omega | (dsimp only; omega)
 try simp only [nrm] at h9
 refine T.exit (TQ.then_exit (TQ.then_exit (TQ.block_out (TQ.then_normal (T.seq (T.region ?_))))))
 refine TO.fnx Tryz.enters104 (c_ref02_constants) rfl Reads0 (fun ⟨A15, cap16⟩ hx17 => ?_)
 refine rdx (rd_assign (v := .slice _ _ _) rfl) ?_
 refine TO.nil (TQ.then_normal (T.seq (T.region ?_)))
 refine rdx (rd_assign (v := .slice none 0 0) rfl) ?_
 refine TO.newrow 137 1 ?_
 refine TO.nil (TQ.then_normal (T.seq (T.region ?_)))
 refine rdx (rd_move (v := .slice _ _ _) rfl) ?_
 refine rdx (rd_move (v := .slice _ _ _) rfl) ?_
 refine TO.app Tryz.trow137 Tryz.under138 (.inl ⟨_, Tryz.under138⟩) rfl rfl (fun _ _ _ hw => Src.ofSlc (e := eW) (fun _ => rfl) (Has.arg 0 rfl) hw) (flatMap_len (e := eW) (fun _ => rfl) _) (flatMap_one (e := eW) (fun _ => rfl) _) (by first | omega | (have := H8.len h; omega)) (fun A20 c21 hc22 => ?_)
 refine rdx (rd_assign (v := .slice _ _ _) rfl) ?_
 refine TO.nil (TQ.then_normal (T.seq (T.seq (T.region ?_))))
 refine rdx (rd_assign (v := .int _ _) rfl) ?_
 refine TO.nil (TQ.then_normal (T.block ?_))
 obtain rfl : k = 64 := by omega
 have hws : wd = sched b := by simpa only [Nat.sub_self, wext] using hw
 have hkl := shaK_len
 refine T.loop4 [0, 5, 10] (fun (A2 : Option Addr) (cap2 : Nat) (k : Nat) (v : H8) => [(11, .slice A2 8 cap2), (12, .int .i64 (k : Nat))]) (fun (A2 : Option Addr) (cap2 : Nat) (k : Nat) (v : H8) => [row 137 1 A2 8 cap2 (v.l.flatMap eW)]) (fun (A2 : Option Addr) (cap2 : Nat) (k : Nat) (v : H8) => v = rnds h ((shaK.zip wd).take k) ∧ k ≤ 64) (fun (A2 : Option Addr) (cap2 : Nat) (k : Nat) (v : H8) => 64 - k) (A20) (c21) (0) (h) (⟨rfl, by decide⟩) (And.intro (rfl) (And.intro (rfl) (trivial))) (fun _ _ h => h) fun A2 cap2 k v g2 hx2 => ?_
 obtain ⟨hv, hk⟩ := hx2
 have hvl : v.l.length = 8 := rfl
 refine T.seq (T.seq (T.region ?_))
 refine rdx (rd_move (v := .int _ _) rfl) ?_
 refine rdx (rd_lss rfl rfl) ?_
 refine TO.nil (TQ.then_normal ?_)
 refine T.cond_ft rfl (fun h23 => ?_) (fun h23 => ?_)
 ·try simp only [nrm] at h23
  refine T.exit (TQ.then_exit (TQ.then_exit (TQ.block_out (TQ.then_normal (T.seq (T.region ?_))))))
  refine rdx (rd_assign (v := .slice none 0 0) rfl) ?_
  refine TO.newrow 137 1 ?_
  refine TO.nil (TQ.then_normal (T.seq (T.seq (T.region ?_))))
  refine rdx (rd_assign (v := .int _ _) rfl) ?_
  refine TO.nil (TQ.then_normal (T.block ?_))
  refine T.loop3 [0, 11] (fun (A3 : Option Addr) (cap3 : Nat) (k : Nat) => [(17, .slice A3 k cap3), (18, .int .i64 (k : Nat))]) (fun (A3 : Option Addr) (cap3 : Nat) (k : Nat) => [row 137 1 A3 k cap3 (((h.add v).l.take k).flatMap eW)]) (fun (A3 : Option Addr) (cap3 : Nat) (k : Nat) => k ≤ 8) (fun (A3 : Option Addr) (cap3 : Nat) (k : Nat) => 8 - k) (none) (0) (0) (Nat.zero_le _) (And.intro (rfl) (And.intro (rfl) (trivial))) (fun _ _ h => h) fun A3 cap3 k g3 hx3 => ?_
  refine T.seq (T.seq (T.region ?_))
  refine rdx (rd_move (v := .int _ _) rfl) ?_
  refine rdx (rd_lss rfl rfl) ?_
  refine TO.nil (TQ.then_normal ?_)
  refine T.cond_ft rfl (fun h26 => ?_) (fun h26 => ?_)
  ·try simp only [nrm] at h26
   refine T.exit (TQ.then_exit (TQ.then_exit (TQ.block_out (TQ.then_normal (T.seq (T.region ?_))))))
   refine rdx (rd_move (v := .slice _ _ _) rfl) ?_
   refine rdx (rd_assign (v := .slice _ _ _) rfl) ?_
   refine TO.nil (TQ.then_normal (T.ret ?_))
   refine TQ.done ((A3, cap3)) (trivial) ?_ (fun _ _ => seps_row 0 rfl (by omega) (by rw [shaBlock, List.take_of_length_le (by rw [H8.len]; omega), hv, ← hws, List.take_of_length_le (by rw [zip_len hwl]; omega)])) (res1 Tryz.results98 (Res.tmp (v := .slice _ _ _) rfl)) _ (.inl rfl)
   rw [show k = 8 by omega]
  try simp only [nrm] at h26
  refine T.skip (TQ.then_normal (T.seq (T.block ?_)))
  refine T.drawg Tryz.mixes 11 [(225, 0), (226, 1), (227, 2), (228, 3), (229, 4), (230, 5), (231, 6), (232, 7), (233, 8), (234, 9), (235, 10)] [0, 0, 0, 6, 14, 0, 0, 96, 224, 510, 1022, 2047, 4095] [10] (by kernel_rfl) ?_
  refine DG.rd rfl rfl rfl (fun _ _ => rd_move (v := .slice _ _ _) rfl) ?_
  refine DG.rd rfl rfl rfl (fun _ _ => rd_move (v := .slice _ _ _) rfl) ?_
  refine DG.rd rfl rfl rfl (fun _ _ => rd_move (v := .int _ _) rfl) ?_
  refine DG.rd rfl rfl rfl (fun _ _ => rd_ix Tryz.under138 Tryz.size137 rfl rfl (Has.arg 0 rfl) rfl (by first | omega | ((try simp only [H8.len, shaK_len, sched_len, w16_len, List.length_take] at *); omega)) (by omega)) ?_
  refine DG.rd rfl rfl rfl (fun _ _ => rd_el (v := .int _ _) _ 0 Tryz.one137 rfl (Has.arg 0 rfl) rfl (by first | omega | ((try simp only [H8.len, shaK_len, sched_len, w16_len, List.length_take] at *); omega)) (Nat.le_of_ble_eq_true rfl) rfl) ?_
  refine DG.rd rfl rfl rfl (fun _ _ => rd_move (v := .slice _ _ _) rfl) ?_
  refine DG.rd rfl rfl rfl (fun _ _ => rd_move (v := .int _ _) rfl) ?_
  refine DG.rd rfl rfl rfl (fun _ _ => rd_ix Tryz.under138 Tryz.size137 rfl rfl (row_slc' (e := eW) (xs := v.l) (fun _ => rfl) (by first | rfl | omega | simp) (rfl) (Has.own 1 rfl)) rfl (by first | omega | ((try simp only [H8.len, shaK_len, sched_len, w16_len, List.length_take] at *); omega)) (by omega)) ?_
  refine DG.rd rfl rfl rfl (fun _ _ => rd_el (v := .int _ _) _ 0 Tryz.one137 rfl (row_slc' (e := eW) (xs := v.l) (fun _ => rfl) (by first | rfl | omega | simp) (rfl) (Has.own 1 rfl)) rfl (by first | omega | ((try simp only [H8.len, shaK_len, sched_len, w16_len, List.length_take] at *); omega)) (Nat.le_of_ble_eq_true rfl) rfl) ?_
  refine DG.rd rfl rfl rfl (fun _ _ => rd_add32 rfl rfl) ?_
  refine DG.buildS (cs := [.int _ _]) rfl rfl Tryz.under138 Tryz.size137 Tryz.zero137 (Nat.le_of_ble_eq_true rfl) (fun _ _ => rfl) ?_
  refine DG.done rfl (by decide) rfl (fun gh28 => ?_)
  refine TO.front1 ?_
  refine TO.app Tryz.trow137 Tryz.under138 (.inl ⟨_, Tryz.under138⟩) rfl rfl (Src.own1 1 rfl rfl) rfl rfl (by first | omega | (have := H8.len h; omega)) (fun A29 c30 hc31 => ?_)
  refine TO.row_eq (cs' := ((h.add v).l.take (k + 1)).flatMap eW) rfl (add_row (by omega) _ _) ?_
  refine rdx (rd_assign (v := .slice _ _ _) rfl) ?_
  refine TO.nil (TQ.block_normal (TQ.then_normal (T.region ?_)))
  refine rdx (rd_move (v := .int _ _) rfl) ?_
  refine rdx (rd_add rfl rfl (w64 (by first | omega | ((try simp only [H8.len, shaK_len, sched_len, w16_len, List.length_take] at *); omega)) (by first | omega | ((try simp only [H8.len, shaK_len, sched_len, w16_len, List.length_take] at *); omega)))) ?_
  refine rdx (rd_assign (v := .int _ _) rfl) ?_
  refine TO.nil ?_
  refine TQ.againk (A29, c30, k + 1) ?_ ?_ (And.intro (rfl) (And.intro (rfl) (trivial))) (And.intro (rfl) (And.intro (rfl) (trivial))) (fun _ _ h => h.sel (js := [0, 2, 3, 4, 5]) (by decide))
  ·first | omega | (dsimp only; omega)
  ·first | omega | (dsimp only; omega)
 try simp only [nrm] at h23
 refine T.skip (TQ.then_normal (T.seq (T.block (T.seq (T.region ?_)))))
 refine rdx (rd_move (v := .slice _ _ _) rfl) ?_
 refine rdx (rd_ix (k := 0) Tryz.under138 Tryz.size137 rfl rfl (row_slc' (e := eW) (xs := v.l) (fun _ => rfl) (by first | rfl | omega | simp) (rfl) (Has.own 0 rfl)) rfl (by first | omega | ((try simp only [H8.len, shaK_len, sched_len, w16_len, List.length_take] at *); omega)) (by omega)) ?_
 refine rdx (rd_el (v := .int _ _) 0 0 Tryz.one137 rfl (row_slc' (e := eW) (xs := v.l) (fun _ => rfl) (by first | rfl | omega | simp) (rfl) (Has.own 0 rfl)) rfl (by first | omega | ((try simp only [H8.len, shaK_len, sched_len, w16_len, List.length_take] at *); omega)) (Nat.le_of_ble_eq_true rfl) rfl) ?_
 refine rdx (rd_assign (v := .int _ _) rfl) ?_
 refine TO.nil (TQ.then_normal (T.seq (T.region ?_)))
 refine rdx (rd_move (v := .slice _ _ _) rfl) ?_
 refine rdx (rd_ix (k := 4) Tryz.under138 Tryz.size137 rfl rfl (row_slc' (e := eW) (xs := v.l) (fun _ => rfl) (by first | rfl | omega | simp) (rfl) (Has.own 0 rfl)) rfl (by first | omega | ((try simp only [H8.len, shaK_len, sched_len, w16_len, List.length_take] at *); omega)) (by omega)) ?_
 refine rdx (rd_el (v := .int _ _) 4 0 Tryz.one137 rfl (row_slc' (e := eW) (xs := v.l) (fun _ => rfl) (by first | rfl | omega | simp) (rfl) (Has.own 0 rfl)) rfl (by first | omega | ((try simp only [H8.len, shaK_len, sched_len, w16_len, List.length_take] at *); omega)) (Nat.le_of_ble_eq_true rfl) rfl) ?_
 refine rdx (rd_assign (v := .int _ _) rfl) ?_
 refine TO.nil (TQ.then_normal (T.seq ?_))
 refine T.drawq Tryz.mixes 34 [(135, 0), (136, 1), (137, 2), (138, 3), (139, 4), (140, 5), (141, 6), (142, 7), (143, 8), (144, 9), (145, 10), (146, 11), (147, 12), (148, 13), (149, 14), (150, 15), (151, 16), (152, 17), (153, 18), (154, 19), (155, 20), (156, 21), (157, 22), (158, 23), (159, 24), (160, 25), (161, 26), (162, 27), (163, 28), (164, 29), (165, 30), (166, 31), (167, 32), (168, 33)] [0, 1, 3, 0, 8, 0, 56, 120, 0, 376, 1016, 2047, 0, 0, 8192, 24576, 61440, 0, 131072, 0, 524288, 1572864, 4063232, 8384512, 16777215, 0, 0, 100663296, 234881024, 536870911, 0, 0, 3221225472, 7516192768, 17179869183, 34359738367] (by kernel_rfl) ?_
 refine DQ.rd rfl rfl (fun _ => rd_move (v := .slice _ _ _) rfl) ?_
 refine DQ.rd rfl rfl (fun _ => rd_ix (k := 7) Tryz.under138 Tryz.size137 rfl rfl (row_slc' (e := eW) (xs := v.l) (fun _ => rfl) (by first | rfl | omega | simp) (rfl) (Has.own 0 rfl)) rfl (by first | omega | ((try simp only [H8.len, shaK_len, sched_len, w16_len, List.length_take] at *); omega)) (by omega)) ?_
 refine DQ.rd rfl rfl (fun _ => rd_el (v := .int _ _) 7 0 Tryz.one137 rfl (row_slc' (e := eW) (xs := v.l) (fun _ => rfl) (by first | rfl | omega | simp) (rfl) (Has.own 0 rfl)) rfl (by first | omega | ((try simp only [H8.len, shaK_len, sched_len, w16_len, List.length_take] at *); omega)) (Nat.le_of_ble_eq_true rfl) rfl) ?_
 refine DQ.rd rfl rfl (fun _ => rd_move (v := .int _ _) rfl) ?_
 refine DQ.fn rfl Tryz.enters103 (c_ref02_rotated _ 6 (by decide) (by decide)) (fun _ => rfl) Reads0 ?_
 refine DQ.rd rfl rfl (fun _ => rd_move (v := .int _ _) rfl) ?_
 refine DQ.fn rfl Tryz.enters103 (c_ref02_rotated _ 11 (by decide) (by decide)) (fun _ => rfl) Reads0 ?_
 refine DQ.rd rfl rfl (fun _ => rd_xor32 rfl rfl) ?_
 refine DQ.rd rfl rfl (fun _ => rd_move (v := .int _ _) rfl) ?_
 refine DQ.fn rfl Tryz.enters103 (c_ref02_rotated _ 25 (by decide) (by decide)) (fun _ => rfl) Reads0 ?_
 refine DQ.rd rfl rfl (fun _ => rd_xor32 rfl rfl) ?_
 refine DQ.rd rfl rfl (fun _ => rd_add32 rfl rfl) ?_
 refine DQ.rd rfl rfl (fun _ => rd_move (v := .int _ _) rfl) ?_
 refine DQ.rd rfl rfl (fun _ => rd_move (v := .slice _ _ _) rfl) ?_
 refine DQ.rd rfl rfl (fun _ => rd_ix (k := 5) Tryz.under138 Tryz.size137 rfl rfl (row_slc' (e := eW) (xs := v.l) (fun _ => rfl) (by first | rfl | omega | simp) (rfl) (Has.own 0 rfl)) rfl (by first | omega | ((try simp only [H8.len, shaK_len, sched_len, w16_len, List.length_take] at *); omega)) (by omega)) ?_
 refine DQ.rd rfl rfl (fun _ => rd_el (v := .int _ _) 5 0 Tryz.one137 rfl (row_slc' (e := eW) (xs := v.l) (fun _ => rfl) (by first | rfl | omega | simp) (rfl) (Has.own 0 rfl)) rfl (by first | omega | ((try simp only [H8.len, shaK_len, sched_len, w16_len, List.length_take] at *); omega)) (Nat.le_of_ble_eq_true rfl) rfl) ?_
 refine DQ.rd rfl rfl (fun _ => rd_and32 rfl rfl) ?_
 refine DQ.rd rfl rfl (fun _ => rd_move (v := .int _ _) rfl) ?_
 refine DQ.rd rfl rfl (fun _ => rd_not32 rfl) ?_
 refine DQ.rd rfl rfl (fun _ => rd_move (v := .slice _ _ _) rfl) ?_
 refine DQ.rd rfl rfl (fun _ => rd_ix (k := 6) Tryz.under138 Tryz.size137 rfl rfl (row_slc' (e := eW) (xs := v.l) (fun _ => rfl) (by first | rfl | omega | simp) (rfl) (Has.own 0 rfl)) rfl (by first | omega | ((try simp only [H8.len, shaK_len, sched_len, w16_len, List.length_take] at *); omega)) (by omega)) ?_
 refine DQ.rd rfl rfl (fun _ => rd_el (v := .int _ _) 6 0 Tryz.one137 rfl (row_slc' (e := eW) (xs := v.l) (fun _ => rfl) (by first | rfl | omega | simp) (rfl) (Has.own 0 rfl)) rfl (by first | omega | ((try simp only [H8.len, shaK_len, sched_len, w16_len, List.length_take] at *); omega)) (Nat.le_of_ble_eq_true rfl) rfl) ?_
 refine DQ.rd rfl rfl (fun _ => rd_and32 rfl rfl) ?_
 refine DQ.rd rfl rfl (fun _ => rd_xor32 rfl rfl) ?_
 refine DQ.rd rfl rfl (fun _ => rd_add32 rfl rfl) ?_
 refine DQ.rd rfl rfl (fun _ => rd_move (v := .slice _ _ _) rfl) ?_
 refine DQ.rd rfl rfl (fun _ => rd_move (v := .int _ _) rfl) ?_
 refine DQ.rd rfl rfl (fun _ => rd_ix Tryz.under138 Tryz.size137 rfl rfl (row_slc' (e := eW) (xs := shaK) (fun _ => rfl) (by first | rfl | omega | simp) (by first | rfl | simp) (Has.own 1 rfl)) rfl (by first | omega | ((try simp only [H8.len, shaK_len, sched_len, w16_len, List.length_take] at *); omega)) (by omega)) ?_
 refine DQ.rd rfl rfl (fun _ => rd_el (v := .int _ _) _ 0 Tryz.one137 rfl (row_slc' (e := eW) (xs := shaK) (fun _ => rfl) (by first | rfl | omega | simp) (by first | rfl | simp) (Has.own 1 rfl)) rfl (by first | omega | ((try simp only [H8.len, shaK_len, sched_len, w16_len, List.length_take] at *); omega)) (Nat.le_of_ble_eq_true rfl) rfl) ?_
 refine DQ.rd rfl rfl (fun _ => rd_add32 rfl rfl) ?_
 refine DQ.rd rfl rfl (fun _ => rd_move (v := .slice _ _ _) rfl) ?_
 refine DQ.rd rfl rfl (fun _ => rd_move (v := .int _ _) rfl) ?_
 refine DQ.rd rfl rfl (fun _ => rd_ix Tryz.under138 Tryz.size137 rfl rfl (row_slc' (e := eW) (xs := wd) (fun _ => rfl) (by first | rfl | omega | simp) (rfl) (Has.own 2 rfl)) rfl (by first | omega | ((try simp only [H8.len, shaK_len, sched_len, w16_len, List.length_take] at *); omega)) (by omega)) ?_
 refine DQ.rd rfl rfl (fun _ => rd_el (v := .int _ _) _ 0 Tryz.one137 rfl (row_slc' (e := eW) (xs := wd) (fun _ => rfl) (by first | rfl | omega | simp) (rfl) (Has.own 2 rfl)) rfl (by first | omega | ((try simp only [H8.len, shaK_len, sched_len, w16_len, List.length_take] at *); omega)) (Nat.le_of_ble_eq_true rfl) rfl) ?_
 refine DQ.done rfl ?_
 refine rdx (rd_add32 rfl rfl) ?_
 refine rdx (rd_assign (v := .int _ _) rfl) ?_
 refine TO.nil (TQ.then_normal (T.seq ?_))
 refine T.drawq Tryz.mixes 27 [(170, 0), (171, 1), (172, 2), (173, 3), (174, 4), (175, 5), (176, 6), (177, 7), (178, 8), (179, 9), (180, 10), (181, 11), (182, 12), (183, 13), (184, 14), (185, 15), (186, 16), (187, 17), (188, 18), (189, 19), (190, 20), (191, 21), (192, 22), (193, 23), (194, 24), (195, 25), (196, 26)] [0, 1, 0, 7, 15, 0, 47, 127, 0, 0, 512, 1536, 3840, 0, 0, 16384, 49152, 122880, 261888, 0, 524288, 1572864, 0, 4194304, 12582912, 33030144, 67108608, 134217727, 268435455] (by kernel_rfl) ?_
 refine DQ.rd rfl rfl (fun _ => rd_move (v := .int _ _) rfl) ?_
 refine DQ.fn rfl Tryz.enters103 (c_ref02_rotated _ 2 (by decide) (by decide)) (fun _ => rfl) Reads0 ?_
 refine DQ.rd rfl rfl (fun _ => rd_move (v := .int _ _) rfl) ?_
 refine DQ.fn rfl Tryz.enters103 (c_ref02_rotated _ 13 (by decide) (by decide)) (fun _ => rfl) Reads0 ?_
 refine DQ.rd rfl rfl (fun _ => rd_xor32 rfl rfl) ?_
 refine DQ.rd rfl rfl (fun _ => rd_move (v := .int _ _) rfl) ?_
 refine DQ.fn rfl Tryz.enters103 (c_ref02_rotated _ 22 (by decide) (by decide)) (fun _ => rfl) Reads0 ?_
 refine DQ.rd rfl rfl (fun _ => rd_xor32 rfl rfl) ?_
 refine DQ.rd rfl rfl (fun _ => rd_move (v := .int _ _) rfl) ?_
 refine DQ.rd rfl rfl (fun _ => rd_move (v := .slice _ _ _) rfl) ?_
 refine DQ.rd rfl rfl (fun _ => rd_ix (k := 1) Tryz.under138 Tryz.size137 rfl rfl (row_slc' (e := eW) (xs := v.l) (fun _ => rfl) (by first | rfl | omega | simp) (rfl) (Has.own 0 rfl)) rfl (by first | omega | ((try simp only [H8.len, shaK_len, sched_len, w16_len, List.length_take] at *); omega)) (by omega)) ?_
 refine DQ.rd rfl rfl (fun _ => rd_el (v := .int _ _) 1 0 Tryz.one137 rfl (row_slc' (e := eW) (xs := v.l) (fun _ => rfl) (by first | rfl | omega | simp) (rfl) (Has.own 0 rfl)) rfl (by first | omega | ((try simp only [H8.len, shaK_len, sched_len, w16_len, List.length_take] at *); omega)) (Nat.le_of_ble_eq_true rfl) rfl) ?_
 refine DQ.rd rfl rfl (fun _ => rd_and32 rfl rfl) ?_
 refine DQ.rd rfl rfl (fun _ => rd_move (v := .int _ _) rfl) ?_
 refine DQ.rd rfl rfl (fun _ => rd_move (v := .slice _ _ _) rfl) ?_
 refine DQ.rd rfl rfl (fun _ => rd_ix (k := 2) Tryz.under138 Tryz.size137 rfl rfl (row_slc' (e := eW) (xs := v.l) (fun _ => rfl) (by first | rfl | omega | simp) (rfl) (Has.own 0 rfl)) rfl (by first | omega | ((try simp only [H8.len, shaK_len, sched_len, w16_len, List.length_take] at *); omega)) (by omega)) ?_
 refine DQ.rd rfl rfl (fun _ => rd_el (v := .int _ _) 2 0 Tryz.one137 rfl (row_slc' (e := eW) (xs := v.l) (fun _ => rfl) (by first | rfl | omega | simp) (rfl) (Has.own 0 rfl)) rfl (by first | omega | ((try simp only [H8.len, shaK_len, sched_len, w16_len, List.length_take] at *); omega)) (Nat.le_of_ble_eq_true rfl) rfl) ?_
 refine DQ.rd rfl rfl (fun _ => rd_and32 rfl rfl) ?_
 refine DQ.rd rfl rfl (fun _ => rd_xor32 rfl rfl) ?_
 refine DQ.rd rfl rfl (fun _ => rd_move (v := .slice _ _ _) rfl) ?_
 refine DQ.rd rfl rfl (fun _ => rd_ix (k := 1) Tryz.under138 Tryz.size137 rfl rfl (row_slc' (e := eW) (xs := v.l) (fun _ => rfl) (by first | rfl | omega | simp) (rfl) (Has.own 0 rfl)) rfl (by first | omega | ((try simp only [H8.len, shaK_len, sched_len, w16_len, List.length_take] at *); omega)) (by omega)) ?_
 refine DQ.rd rfl rfl (fun _ => rd_el (v := .int _ _) 1 0 Tryz.one137 rfl (row_slc' (e := eW) (xs := v.l) (fun _ => rfl) (by first | rfl | omega | simp) (rfl) (Has.own 0 rfl)) rfl (by first | omega | ((try simp only [H8.len, shaK_len, sched_len, w16_len, List.length_take] at *); omega)) (Nat.le_of_ble_eq_true rfl) rfl) ?_
 refine DQ.rd rfl rfl (fun _ => rd_move (v := .slice _ _ _) rfl) ?_
 refine DQ.rd rfl rfl (fun _ => rd_ix (k := 2) Tryz.under138 Tryz.size137 rfl rfl (row_slc' (e := eW) (xs := v.l) (fun _ => rfl) (by first | rfl | omega | simp) (rfl) (Has.own 0 rfl)) rfl (by first | omega | ((try simp only [H8.len, shaK_len, sched_len, w16_len, List.length_take] at *); omega)) (by omega)) ?_
 refine DQ.rd rfl rfl (fun _ => rd_el (v := .int _ _) 2 0 Tryz.one137 rfl (row_slc' (e := eW) (xs := v.l) (fun _ => rfl) (by first | rfl | omega | simp) (rfl) (Has.own 0 rfl)) rfl (by first | omega | ((try simp only [H8.len, shaK_len, sched_len, w16_len, List.length_take] at *); omega)) (Nat.le_of_ble_eq_true rfl) rfl) ?_
 refine DQ.rd rfl rfl (fun _ => rd_and32 rfl rfl) ?_
 refine DQ.rd rfl rfl (fun _ => rd_xor32 rfl rfl) ?_
 refine DQ.done rfl ?_
 refine rdx (rd_add32 rfl rfl) ?_
 refine rdx (rd_assign (v := .int _ _) rfl) ?_
 refine TO.nil (TQ.then_normal ?_)
 refine T.drawq Tryz.mixes 22 [(198, 0), (199, 1), (200, 2), (201, 3), (202, 4), (203, 5), (204, 6), (205, 7), (206, 8), (207, 9), (208, 10), (209, 11), (210, 12), (211, 13), (212, 14), (213, 15), (214, 16), (215, 17), (216, 18), (217, 19), (218, 20), (219, 21)] [0, 0, 3, 0, 0, 16, 48, 0, 128, 384, 0, 1024, 3072, 0, 15360, 0, 0, 65536, 196608, 0, 524288, 1572864, 4194303, 8388607] (by kernel_rfl) ?_
 refine DQ.rd rfl rfl (fun _ => rd_move (v := .int _ _) rfl) ?_
 refine DQ.rd rfl rfl (fun _ => rd_move (v := .int _ _) rfl) ?_
 refine DQ.rd rfl rfl (fun _ => rd_add32 rfl rfl) ?_
 refine DQ.rd rfl rfl (fun _ => rd_move (v := .int _ _) rfl) ?_
 refine DQ.rd rfl rfl (fun _ => rd_move (v := .slice _ _ _) rfl) ?_
 refine DQ.rd rfl rfl (fun _ => rd_ix (k := 1) Tryz.under138 Tryz.size137 rfl rfl (row_slc' (e := eW) (xs := v.l) (fun _ => rfl) (by first | rfl | omega | simp) (rfl) (Has.own 0 rfl)) rfl (by first | omega | ((try simp only [H8.len, shaK_len, sched_len, w16_len, List.length_take] at *); omega)) (by omega)) ?_
 refine DQ.rd rfl rfl (fun _ => rd_el (v := .int _ _) 1 0 Tryz.one137 rfl (row_slc' (e := eW) (xs := v.l) (fun _ => rfl) (by first | rfl | omega | simp) (rfl) (Has.own 0 rfl)) rfl (by first | omega | ((try simp only [H8.len, shaK_len, sched_len, w16_len, List.length_take] at *); omega)) (Nat.le_of_ble_eq_true rfl) rfl) ?_
 refine DQ.rd rfl rfl (fun _ => rd_move (v := .slice _ _ _) rfl) ?_
 refine DQ.rd rfl rfl (fun _ => rd_ix (k := 2) Tryz.under138 Tryz.size137 rfl rfl (row_slc' (e := eW) (xs := v.l) (fun _ => rfl) (by first | rfl | omega | simp) (rfl) (Has.own 0 rfl)) rfl (by first | omega | ((try simp only [H8.len, shaK_len, sched_len, w16_len, List.length_take] at *); omega)) (by omega)) ?_
 refine DQ.rd rfl rfl (fun _ => rd_el (v := .int _ _) 2 0 Tryz.one137 rfl (row_slc' (e := eW) (xs := v.l) (fun _ => rfl) (by first | rfl | omega | simp) (rfl) (Has.own 0 rfl)) rfl (by first | omega | ((try simp only [H8.len, shaK_len, sched_len, w16_len, List.length_take] at *); omega)) (Nat.le_of_ble_eq_true rfl) rfl) ?_
 refine DQ.rd rfl rfl (fun _ => rd_move (v := .slice _ _ _) rfl) ?_
 refine DQ.rd rfl rfl (fun _ => rd_ix (k := 3) Tryz.under138 Tryz.size137 rfl rfl (row_slc' (e := eW) (xs := v.l) (fun _ => rfl) (by first | rfl | omega | simp) (rfl) (Has.own 0 rfl)) rfl (by first | omega | ((try simp only [H8.len, shaK_len, sched_len, w16_len, List.length_take] at *); omega)) (by omega)) ?_
 refine DQ.rd rfl rfl (fun _ => rd_el (v := .int _ _) 3 0 Tryz.one137 rfl (row_slc' (e := eW) (xs := v.l) (fun _ => rfl) (by first | rfl | omega | simp) (rfl) (Has.own 0 rfl)) rfl (by first | omega | ((try simp only [H8.len, shaK_len, sched_len, w16_len, List.length_take] at *); omega)) (Nat.le_of_ble_eq_true rfl) rfl) ?_
 refine DQ.rd rfl rfl (fun _ => rd_move (v := .int _ _) rfl) ?_
 refine DQ.rd rfl rfl (fun _ => rd_add32 rfl rfl) ?_
 refine DQ.rd rfl rfl (fun _ => rd_move (v := .int _ _) rfl) ?_
 refine DQ.rd rfl rfl (fun _ => rd_move (v := .slice _ _ _) rfl) ?_
 refine DQ.rd rfl rfl (fun _ => rd_ix (k := 5) Tryz.under138 Tryz.size137 rfl rfl (row_slc' (e := eW) (xs := v.l) (fun _ => rfl) (by first | rfl | omega | simp) (rfl) (Has.own 0 rfl)) rfl (by first | omega | ((try simp only [H8.len, shaK_len, sched_len, w16_len, List.length_take] at *); omega)) (by omega)) ?_
 refine DQ.rd rfl rfl (fun _ => rd_el (v := .int _ _) 5 0 Tryz.one137 rfl (row_slc' (e := eW) (xs := v.l) (fun _ => rfl) (by first | rfl | omega | simp) (rfl) (Has.own 0 rfl)) rfl (by first | omega | ((try simp only [H8.len, shaK_len, sched_len, w16_len, List.length_take] at *); omega)) (Nat.le_of_ble_eq_true rfl) rfl) ?_
 refine DQ.rd rfl rfl (fun _ => rd_move (v := .slice _ _ _) rfl) ?_
 refine DQ.rd rfl rfl (fun _ => rd_ix (k := 6) Tryz.under138 Tryz.size137 rfl rfl (row_slc' (e := eW) (xs := v.l) (fun _ => rfl) (by first | rfl | omega | simp) (rfl) (Has.own 0 rfl)) rfl (by first | omega | ((try simp only [H8.len, shaK_len, sched_len, w16_len, List.length_take] at *); omega)) (by omega)) ?_
 refine DQ.rd rfl rfl (fun _ => rd_el (v := .int _ _) 6 0 Tryz.one137 rfl (row_slc' (e := eW) (xs := v.l) (fun _ => rfl) (by first | rfl | omega | simp) (rfl) (Has.own 0 rfl)) rfl (by first | omega | ((try simp only [H8.len, shaK_len, sched_len, w16_len, List.length_take] at *); omega)) (Nat.le_of_ble_eq_true rfl) rfl) ?_
 refine DQ.done rfl ?_
 refine TO.buildS (cs := [.int _ _, .int _ _, .int _ _, .int _ _, .int _ _, .int _ _, .int _ _, .int _ _]) Tryz.under138 Tryz.size137 Tryz.zero137 (Nat.le_of_ble_eq_true rfl) rfl (fun b24 => ?_)
 refine rdx (rd_assign (v := .slice _ _ _) rfl) ?_
 refine TO.nil (TQ.block_normal (TQ.then_normal (T.region ?_)))
 refine rdx (rd_move (v := .int _ _) rfl) ?_
 refine rdx (rd_add rfl rfl (w64 (by first | omega | ((try simp only [H8.len, shaK_len, sched_len, w16_len, List.length_take] at *); omega)) (by first | omega | ((try simp only [H8.len, shaK_len, sched_len, w16_len, List.length_take] at *); omega)))) ?_
 refine rdx (rd_assign (v := .int _ _) rfl) ?_
 refine TO.nil ?_
 refine TQ.torow0 1 8 rfl (by decide) ?_
 refine TQ.againk ((some ⟨b24, 0, none⟩), 8, k + 1, rnd v (shaK[k]'(by rw [shaK_len]; omega), wd[k]'(by omega))) ?_ ?_ (And.intro (rfl) (And.intro (rfl) (trivial))) (And.intro (rfl) (And.intro (rfl) (And.intro (rfl) (trivial)))) (fun _ _ h => h.sel (js := [0, 2, 3, 4]) (by decide))
 ·exact ⟨by rw [rnds_succ hwl (by omega), ← hv], by dsimp only; omega⟩
 ·first | omega | (dsimp only; omega)
end Go.Proofs
end
section
set_option linter.unusedVariables false
set_option linter.unusedSimpArgs false
set_option maxRecDepth 100000
set_option maxHeartbeats 800000
namespace Go.Proofs
open Go.TL
attribute [local irreducible] Go.TL.T Go.TL.TO Go.TL.TQ
end Go.Proofs
end
section
set_option linter.unusedVariables false
set_option linter.unusedSimpArgs false
set_option maxRecDepth 100000
set_option maxHeartbeats 800000
namespace Go.Proofs
open Go.TL
attribute [local irreducible] Go.TL.T Go.TL.TO Go.TL.TQ
theorem c_ref15_puts (A : Option Addr) (cap n : Nat) (l : List Int) (hn : n = l.length) (hl : l.length ≤ 1000) : Cv Tryz.prog 67 #[.slice A n cap] [slc eInt 1 A l] (.string (str (puts l))) := by
 subst hn
 refine Ctr.intro Tryz.func67 rfl Tryz.ntmps67 (Nat.le_of_ble_eq_true rfl) fun S0 w0 => ?_
 refine T.seq (T.region ?_)
 refine rdx (rd_assign (v := .string _) rfl) ?_
 refine TO.nil (TQ.then_normal (T.seq (T.region ?_)))
 refine rdx (rd_assign (v := .string _) rfl) ?_
 refine TO.nil (TQ.then_normal (T.seq (T.seq (T.region ?_))))
 refine rdx (rd_assign (v := .int _ _) rfl) ?_
 refine TO.nil (TQ.then_normal (T.block ?_))
 refine T.loop1 [0] (fun (k : Nat) => [(4, .int .i64 (k : Nat)), (3, .string (str (puts (l.take k))))]) (fun (k : Nat) => []) (fun (k : Nat) => k ≤ l.length) (fun (k : Nat) => l.length - k) (0) (Nat.zero_le _) (And.intro (rfl) (And.intro (rfl) (trivial))) (fun _ _ h => h) fun k g0 hx0 => ?_
 refine T.seq (T.seq (T.region ?_))
 refine rdx (rd_move (v := .int _ _) rfl) ?_
 refine rdx (rd_move (v := .slice _ _ _) rfl) ?_
 refine rdx (rd_lensl Tryz.under110 rfl) ?_
 refine rdx (rd_lss rfl rfl) ?_
 refine TO.nil (TQ.then_normal ?_)
 refine T.cond_ft rfl (fun h1 => ?_) (fun h1 => ?_)
 ·try simp only [nrm] at h1
  refine T.exit (TQ.then_exit (TQ.then_exit (TQ.block_out (TQ.then_normal (T.seq (T.region ?_))))))
  refine rdx (rd_move (v := .string _) rfl) ?_
  refine rdx (rd_assign (v := .string _) rfl) ?_
  refine TO.nil (TQ.then_normal (T.ret ?_))
  refine TQ.value ?_ (res1 Tryz.results67 (Res.tmp (v := .string _) rfl)) _ (.inl rfl)
  rw [List.take_of_length_le (by omega)]
 try simp only [nrm] at h1
 refine T.skip (TQ.then_normal (T.seq (T.block (T.seq (T.region ?_)))))
 refine rdx (rd_move (v := .slice _ _ _) rfl) ?_
 refine rdx (rd_move (v := .int _ _) rfl) ?_
 refine rdx (rd_ix Tryz.under110 Tryz.size3 rfl rfl (Has.arg 0 rfl) rfl (by omega) (by omega)) ?_
 refine rdx (rd_el (v := .int _ _) _ 0 Tryz.one3 rfl (Has.arg 0 rfl) rfl (by omega) (Nat.le_of_ble_eq_true rfl) rfl) ?_
 refine TO.fn Tryz.enters94 (c_ref01_PutInt _) rfl Reads0 ?_
 refine rdx (rd_move (v := .tuple _) rfl) ?_
 refine rdx (rd_extract (v := .string _) (vs := _) rfl rfl) ?_
 refine rdx (rd_extract (v := .int _ _) (vs := _) rfl rfl) ?_
 refine rdx (rd_assign (v := .string _) rfl) ?_
 refine rdx (rd_assign (v := .int _ _) rfl) ?_
 refine TO.nil (TQ.then_normal (T.region ?_))
 refine rdx (rd_move (v := .string _) rfl) ?_
 refine rdx (rd_move (v := .string _) rfl) ?_
 refine rdx (rd_cat' (c := puts (l.take (k + 1))) rfl rfl (by have h1 := puts_length (l.take k); have h2 := putInt_length (l[k]'(by omega)); rw [List.length_take] at h1; omega) (by rw [← take_snoc (by omega), puts_snoc])) ?_
 refine rdx (rd_assign (v := .string _) rfl) ?_
 refine TO.nil (TQ.block_normal (TQ.then_normal (T.region ?_)))
 refine rdx (rd_move (v := .int _ _) rfl) ?_
 refine rdx (rd_add rfl rfl (w64 (by omega) (by omega))) ?_
 refine rdx (rd_assign (v := .int _ _) rfl) ?_
 refine TO.nil ?_
 refine TQ.againk (k + 1) ?_ ?_ (And.intro (rfl) (And.intro (rfl) (trivial))) (And.intro (rfl) (trivial)) (fun _ _ h => h)
 ·first | omega | (dsimp only; omega)
 ·first | omega | (dsimp only; omega)
theorem c_ref15_ProxyContent (p : Proxy) : Cv Tryz.prog 36 #[proxyV p] [] (.string (str (proxyText p))) := by
 refine Ctr.intro Tryz.func36 rfl Tryz.ntmps36 (Nat.le_of_ble_eq_true rfl) fun S0 w0 => ?_
 refine T.seq (T.region ?_)
 refine TO.box (v := .agg #[.int _ _, .int _ _, .int _ _, .int _ _, .int _ _, .int _ _, .string _]) rfl (fun b1 => ?_)
 refine rdx (rd_assign (v := .string _) rfl) ?_
 refine TO.nil (TQ.then_normal (T.seq (T.region ?_)))
 refine rdx (rd_fieldAddr Tryz.field40_0 rfl) ?_
 refine rdx (rd_load (v := .int _ _) Tryz.one3 rfl (Has.own 0 rfl) rfl) ?_
 refine rdx (rd_fieldAddr Tryz.field40_1 rfl) ?_
 refine rdx (rd_load (v := .int _ _) Tryz.one3 rfl (Has.own 0 rfl) rfl) ?_
 refine rdx (rd_fieldAddr Tryz.field40_2 rfl) ?_
 refine rdx (rd_fieldAddr Tryz.field27_0 rfl) ?_
 refine rdx (rd_load (v := .int _ _) Tryz.one3 rfl (Has.own 0 rfl) rfl) ?_
 refine rdx (rd_fieldAddr Tryz.field40_2 rfl) ?_
 refine rdx (rd_fieldAddr Tryz.field27_1 rfl) ?_
 refine rdx (rd_load (v := .int _ _) Tryz.one3 rfl (Has.own 0 rfl) rfl) ?_
 refine rdx (rd_fieldAddr Tryz.field40_3 rfl) ?_
 refine rdx (rd_fieldAddr Tryz.field28_0 rfl) ?_
 refine rdx (rd_load (v := .int _ _) Tryz.one3 rfl (Has.own 0 rfl) rfl) ?_
 refine rdx (rd_fieldAddr Tryz.field40_3 rfl) ?_
 refine rdx (rd_fieldAddr Tryz.field28_1 rfl) ?_
 refine rdx (rd_load (v := .int _ _) Tryz.one3 rfl (Has.own 0 rfl) rfl) ?_
 refine TO.buildS (cs := [.int _ _, .int _ _, .int _ _, .int _ _, .int _ _, .int _ _, .int _ _]) Tryz.under110 Tryz.size3 Tryz.zero3 (Nat.le_of_ble_eq_true rfl) rfl (fun b2 => ?_)
 refine TO.fn Tryz.enters67 (c_ref15_puts _ _ _ [2, p.frm, p.to, p.rlo, p.rhi, p.slo, p.shi] (by first | rfl | simp | omega) (by simp)) rfl (ReadsC (own_slc (e := eInt) [2, p.frm, p.to, p.rlo, p.rhi, p.slo, p.shi] rfl (fun _ => rfl) (Has.own 0 rfl) (by simp)) Reads0) ?_
 refine rdx (rd_assign (v := .string _) rfl) ?_
 refine TO.nil (TQ.then_normal (T.ret ?_))
 refine TQ.value ?_ (res1 Tryz.results36 (Res.tmp (v := .string _) rfl)) _ (.inl rfl)
 rfl
theorem c_ref15_WishContent (w : Wish) : Cv Tryz.prog 35 #[wishV w] [] (.string (str (wishText w))) := by
 refine Ctr.intro Tryz.func35 rfl Tryz.ntmps35 (Nat.le_of_ble_eq_true rfl) fun S0 w0 => ?_
 refine T.seq (T.region ?_)
 refine TO.box (v := .agg #[.int _ _, .int _ _, .int _ _, .int _ _, .int _ _, .int _ _, .int _ _, .int _ _, .string _]) rfl (fun b1 => ?_)
 refine rdx (rd_assign (v := .string _) rfl) ?_
 refine TO.nil (TQ.then_normal (T.seq (T.region ?_)))
 refine rdx (rd_fieldAddr Tryz.field30_0 rfl) ?_
 refine rdx (rd_load (v := .int _ _) Tryz.one3 rfl (Has.own 0 rfl) rfl) ?_
 refine rdx (rd_fieldAddr Tryz.field30_1 rfl) ?_
 refine rdx (rd_load (v := .int _ _) Tryz.one3 rfl (Has.own 0 rfl) rfl) ?_
 refine rdx (rd_fieldAddr Tryz.field30_2 rfl) ?_
 refine rdx (rd_fieldAddr Tryz.field27_0 rfl) ?_
 refine rdx (rd_load (v := .int _ _) Tryz.one3 rfl (Has.own 0 rfl) rfl) ?_
 refine rdx (rd_fieldAddr Tryz.field30_2 rfl) ?_
 refine rdx (rd_fieldAddr Tryz.field27_1 rfl) ?_
 refine rdx (rd_load (v := .int _ _) Tryz.one3 rfl (Has.own 0 rfl) rfl) ?_
 refine rdx (rd_fieldAddr Tryz.field30_3 rfl) ?_
 refine rdx (rd_load (v := .int _ _) Tryz.one3 rfl (Has.own 0 rfl) rfl) ?_
 refine rdx (rd_fieldAddr Tryz.field30_4 rfl) ?_
 refine rdx (rd_load (v := .int _ _) Tryz.one3 rfl (Has.own 0 rfl) rfl) ?_
 refine rdx (rd_fieldAddr Tryz.field30_5 rfl) ?_
 refine rdx (rd_fieldAddr Tryz.field28_0 rfl) ?_
 refine rdx (rd_load (v := .int _ _) Tryz.one3 rfl (Has.own 0 rfl) rfl) ?_
 refine rdx (rd_fieldAddr Tryz.field30_5 rfl) ?_
 refine rdx (rd_fieldAddr Tryz.field28_1 rfl) ?_
 refine rdx (rd_load (v := .int _ _) Tryz.one3 rfl (Has.own 0 rfl) rfl) ?_
 refine TO.buildS (cs := [.int _ _, .int _ _, .int _ _, .int _ _, .int _ _, .int _ _, .int _ _, .int _ _, .int _ _]) Tryz.under110 Tryz.size3 Tryz.zero3 (Nat.le_of_ble_eq_true rfl) rfl (fun b2 => ?_)
 refine TO.fn Tryz.enters67 (c_ref15_puts _ _ _ [1, w.signer, w.holder, w.rlo, w.rhi, w.carrier, w.serial, w.slo, w.shi] (by first | rfl | simp | omega) (by simp)) rfl (ReadsC (own_slc (e := eInt) [1, w.signer, w.holder, w.rlo, w.rhi, w.carrier, w.serial, w.slo, w.shi] rfl (fun _ => rfl) (Has.own 0 rfl) (by simp)) Reads0) ?_
 refine rdx (rd_assign (v := .string _) rfl) ?_
 refine TO.nil (TQ.then_normal (T.ret ?_))
 refine TQ.value ?_ (res1 Tryz.results35 (Res.tmp (v := .string _) rfl)) _ (.inl rfl)
 rfl
theorem c_ref15_AccountContent (n e : Int) : Cv Tryz.prog 77 #[.int .i64 n, .int .i64 e] [] (.string (str (puts [3, n, e]))) := by
 refine Ctr.intro Tryz.func77 rfl Tryz.ntmps77 (Nat.le_of_ble_eq_true rfl) fun S0 w0 => ?_
 refine T.seq (T.region ?_)
 refine rdx (rd_assign (v := .string _) rfl) ?_
 refine TO.nil (TQ.then_normal (T.seq (T.region ?_)))
 refine rdx (rd_move (v := .int _ _) rfl) ?_
 refine rdx (rd_move (v := .int _ _) rfl) ?_
 refine TO.buildS (cs := [.int _ _, .int _ _, .int _ _]) Tryz.under110 Tryz.size3 Tryz.zero3 (Nat.le_of_ble_eq_true rfl) rfl (fun b1 => ?_)
 refine TO.fn Tryz.enters67 (c_ref15_puts _ _ _ [3, n, e] (by first | rfl | simp | omega) (by simp)) rfl (ReadsC (own_slc (e := eInt) [3, n, e] rfl (fun _ => rfl) (Has.own 0 rfl) (by simp)) Reads0) ?_
 refine rdx (rd_assign (v := .string _) rfl) ?_
 refine TO.nil (TQ.then_normal (T.ret ?_))
 refine TQ.value ?_ (res1 Tryz.results77 (Res.tmp (v := .string _) rfl)) _ (.inl rfl)
 rfl
end Go.Proofs
end
section
set_option linter.unusedVariables false
set_option linter.unusedSimpArgs false
set_option maxRecDepth 100000
set_option maxHeartbeats 800000
namespace Go.Proofs
open Go.TL
attribute [local irreducible] Go.TL.T Go.TL.TO Go.TL.TQ
theorem c_ref02_Sum (s : Bytes) (hs : s.length ≤ 1000000000000) : Cv Tryz.prog 78 #[.string (str s)] [] (.string (str (sha s))) := by
 refine Ctr.intro Tryz.func78 rfl Tryz.ntmps78 (Nat.le_of_ble_eq_true rfl) fun S0 w0 => ?_
 refine T.seq (T.region ?_)
 refine rdx (rd_assign (v := .string _) rfl) ?_
 refine TO.nil (TQ.then_normal (T.seq (T.region ?_)))
 refine TO.buildS (cs := [.int _ _, .int _ _, .int _ _, .int _ _, .int _ _, .int _ _, .int _ _, .int _ _]) Tryz.under138 Tryz.size137 Tryz.zero137 (Nat.le_of_ble_eq_true rfl) rfl (fun b1 => ?_)
 refine rdx (rd_assign (v := .slice _ _ _) rfl) ?_
 refine TO.nil (TQ.then_normal (T.seq (T.region ?_)))
 refine rdx (rd_move (v := .string _) rfl) ?_
 refine TO.fnx Tryz.enters97 (c_ref02_extended _ (by omega)) rfl Reads0 (fun ⟨A2, cap3⟩ hx4 => ?_)
 replace hx4 : (pad s).length ≤ cap3 := hx4
 refine rdx (rd_assign (v := .slice _ _ _) rfl) ?_
 refine TO.nil (TQ.then_normal (T.seq (T.seq (T.region ?_))))
 refine rdx (rd_assign (v := .int _ _) rfl) ?_
 refine TO.nil (TQ.then_normal (T.block ?_))
 refine T.front1 ?_
 refine T.torow0 1 8 rfl (by decide) ?_
 have hp64 := pad_len s
 have hpl := pad_le s
 refine T.loop4 [4] (fun (A1 : Option Addr) (cap1 : Nat) (q : Nat) (h : H8) => [(3, .slice A1 8 cap1), (5, .int .i64 ((64 * q : Nat) : Int))]) (fun (A1 : Option Addr) (cap1 : Nat) (q : Nat) (h : H8) => [row 137 1 A1 8 cap1 (h.l.flatMap eW)]) (fun (A1 : Option Addr) (cap1 : Nat) (q : Nat) (h : H8) => shaBlocks ((pad s).length / 64 - q) h ((pad s).drop (64 * q)) = shaBlocks ((pad s).length / 64) shaH (pad s) ∧ 64 * q ≤ (pad s).length) (fun (A1 : Option Addr) (cap1 : Nat) (q : Nat) (h : H8) => (pad s).length - 64 * q) ((some ⟨b1, 0, none⟩)) (8) (0) (shaH) (⟨by rw [Nat.mul_zero, Nat.sub_zero, List.drop_zero], Nat.zero_le _⟩) (And.intro (rfl) (And.intro (rfl) (trivial))) (fun _ _ h => h) fun A1 cap1 q h g0 hx0 => ?_
 obtain ⟨hB, hq⟩ := hx0
 refine T.seq (T.seq (T.region ?_))
 refine rdx (rd_move (v := .int _ _) rfl) ?_
 refine rdx (rd_move (v := .slice _ _ _) rfl) ?_
 refine rdx (rd_lensl Tryz.under62 rfl) ?_
 refine rdx (rd_lss rfl rfl) ?_
 refine TO.nil (TQ.then_normal ?_)
 refine T.cond rfl (fun h6 => ?_) (fun h6 => ?_)
 ·try simp only [nrm] at h6
  refine T.skip (TQ.then_normal (T.seq (T.block (T.region ?_))))
  refine rdx (rd_move (v := .slice _ _ _) rfl) ?_
  refine rdx (rd_move (v := .slice _ _ _) rfl) ?_
  refine rdx (rd_move (v := .int _ _) rfl) ?_
  refine rdx (rd_move (v := .int _ _) rfl) ?_
  refine rdx (rd_add rfl rfl (w64 (by first | omega | (have := pad_le s; omega)) (by first | omega | (have := pad_le s; omega)))) ?_
  refine rdx (rd_sub_slice (i := 64 * q) (j := 64 * q + 64) Tryz.under62 Tryz.size5 rfl (.inr ⟨_, rfl⟩) (.inr ⟨_, rfl⟩) (by omega) (by omega) (by omega)) ?_
  refine TO.fnx Tryz.enters98 (c_ref02_block _ _ _ h.l (by first | rfl | (simp only [List.length_drop, List.length_take]; omega)) _ _ _ (((pad s).take (64 * q + 64)).drop (64 * q)) (by first | rfl | (simp only [List.length_drop, List.length_take]; omega)) _ rfl (by first | rfl | (simp only [List.length_drop, List.length_take]; omega))) rfl (ReadsC (row_slc' (e := eW) (xs := h.l) (fun _ => rfl) (by first | rfl | omega | simp) (rfl) (Has.own 0 rfl)) (ReadsC (slc_sub (i := 64 * q) (j := 64 * q + 64) (cap := cap3) (row_slc' (e := eByte) (xs := (pad s)) (fun _ => rfl) (rfl) (bytesC_flat _) (Has.own 1 rfl)) (by omega) (by omega) (by omega)) Reads0)) (fun ⟨A7, cap8⟩ hx9 => ?_)
  refine rdx (rd_assign (v := .slice _ _ _) rfl) ?_
  refine TO.nil (TQ.block_normal (TQ.then_normal (T.region ?_)))
  refine rdx (rd_move (v := .int _ _) rfl) ?_
  refine rdx (rd_add rfl rfl (w64 (by first | omega | (have := pad_le s; omega)) (by first | omega | (have := pad_le s; omega)))) ?_
  refine rdx (rd_assign (v := .int _ _) rfl) ?_
  refine TO.nil ?_
  refine TQ.againk (A7, cap8, q + 1, shaBlock h (((pad s).take (64 * q + 64)).drop (64 * q))) ?_ ?_ (And.intro (rfl) (And.intro (rfl) (trivial))) (And.intro (rfl) (trivial)) (fun _ _ h => h.sel (js := [0, 2]) (by decide))
  ·refine ⟨?_, by dsimp only; omega⟩
   rw [← hB, show (pad s).length / 64 - q = ((pad s).length / 64 - (q + 1)) + 1 by omega, shaBlocks_succ, List.drop_drop, List.drop_take]
   dsimp only
   rw [show 64 * q + 64 - 64 * q = 64 by omega]
   rfl
  ·first | omega | (dsimp only; omega)
 try simp only [nrm] at h6
 refine T.exit (TQ.then_exit (TQ.then_exit (TQ.block_out (TQ.then_normal (T.seq (T.region ?_))))))
 refine rdx (rd_assign (v := .slice none 0 0) rfl) ?_
 refine TO.newrow 5 1 ?_
 refine TO.nil (TQ.then_normal (T.seq (T.seq (T.region ?_))))
 refine rdx (rd_assign (v := .int _ _) rfl) ?_
 refine TO.nil (TQ.then_normal (T.block ?_))
 have hH : h = shaBlocks ((pad s).length / 64) shaH (pad s) := by
  rw [show (pad s).length / 64 - q = 0 by omega] at hB; rw [← hB]; rfl
 have hl8 : h.l.length = 8 := rfl
 refine T.loop3 [3] (fun (A2 : Option Addr) (cap2 : Nat) (k : Nat) => [(6, .slice A2 (4 * k) cap2), (7, .int .i64 (k : Nat))]) (fun (A2 : Option Addr) (cap2 : Nat) (k : Nat) => [row 5 1 A2 (4 * k) cap2 (bytesC ((h.l.take k).flatMap be4))]) (fun (A2 : Option Addr) (cap2 : Nat) (k : Nat) => k ≤ 8) (fun (A2 : Option Addr) (cap2 : Nat) (k : Nat) => 8 - k) (none) (0) (0) (Nat.zero_le _) (And.intro (rfl) (And.intro (rfl) (trivial))) (fun _ _ h => h) fun A2 cap2 k g1 hx1 => ?_
 refine T.seq (T.seq (T.region ?_))
 refine rdx (rd_move (v := .int _ _) rfl) ?_
 refine rdx (rd_lss rfl rfl) ?_
 refine TO.nil (TQ.then_normal ?_)
 refine T.cond_ft rfl (fun h12 => ?_) (fun h12 => ?_)
 ·try simp only [nrm] at h12
  refine T.exit (TQ.then_exit (TQ.then_exit (TQ.block_out (TQ.then_normal (T.seq (T.region ?_))))))
  refine rdx (rd_move (v := .slice _ _ _) rfl) ?_
  refine rdx (rd_row_str Tryz.under62 Tryz.under5 Tryz.under9 rfl (Has.own 0 rfl)) ?_
  refine rdx (rd_assign (v := .string _) rfl) ?_
  refine TO.nil (TQ.then_normal (T.ret ?_))
  refine TQ.value ?_ (res1 Tryz.results78 (Res.tmp (v := .string _) rfl)) _ (.inl rfl)
  rw [sha, ← hH, List.take_of_length_le (by omega)]
 try simp only [nrm] at h12
 refine T.skip (TQ.then_normal (T.seq (T.block ?_)))
 refine T.drawg Tryz.mixes 25 [(28, 0), (29, 1), (30, 2), (31, 3), (32, 4), (33, 5), (34, 6), (35, 7), (36, 8), (37, 9), (38, 10), (39, 11), (40, 12), (41, 13), (42, 14), (43, 15), (44, 16), (45, 17), (46, 18), (47, 19), (48, 20), (49, 21), (50, 22), (51, 23), (52, 24)] [0, 0, 0, 6, 14, 30, 62, 0, 0, 384, 896, 1920, 3968, 0, 0, 24576, 57344, 122880, 253952, 0, 0, 1572864, 3670016, 7864320, 16777214, 33554431, 67108863] [24] (by kernel_rfl) ?_
 refine DG.rd rfl rfl rfl (fun _ _ => rd_move (v := .slice _ _ _) rfl) ?_
 refine DG.rd rfl rfl rfl (fun _ _ => rd_move (v := .slice _ _ _) rfl) ?_
 refine DG.rd rfl rfl rfl (fun _ _ => rd_move (v := .int _ _) rfl) ?_
 refine DG.rd rfl rfl rfl (fun _ _ => rd_ix Tryz.under138 Tryz.size137 rfl rfl (row_slc' (e := eW) (xs := h.l) (fun _ => rfl) (by first | rfl | omega | simp) (rfl) (Has.own 1 rfl)) rfl (by first | omega | (have := pad_le s; omega)) (by first | omega | (have := pad_le s; omega))) ?_
 refine DG.rd rfl rfl rfl (fun _ _ => rd_el (v := .int _ _) _ 0 Tryz.one137 rfl (row_slc' (e := eW) (xs := h.l) (fun _ => rfl) (by first | rfl | omega | simp) (rfl) (Has.own 1 rfl)) rfl (by first | omega | (have := pad_le s; omega)) (Nat.le_of_ble_eq_true rfl) rfl) ?_
 refine DG.rd rfl rfl rfl (fun _ _ => rd_shr32 (k := 24) rfl rfl (rfl) (by decide)) ?_
 refine DG.rd rfl rfl rfl (fun _ _ => rd_conv32_8 Tryz.isome137 Tryz.under5 rfl) ?_
 refine DG.rd rfl rfl rfl (fun _ _ => rd_move (v := .slice _ _ _) rfl) ?_
 refine DG.rd rfl rfl rfl (fun _ _ => rd_move (v := .int _ _) rfl) ?_
 refine DG.rd rfl rfl rfl (fun _ _ => rd_ix Tryz.under138 Tryz.size137 rfl rfl (row_slc' (e := eW) (xs := h.l) (fun _ => rfl) (by first | rfl | omega | simp) (rfl) (Has.own 1 rfl)) rfl (by first | omega | (have := pad_le s; omega)) (by first | omega | (have := pad_le s; omega))) ?_
 refine DG.rd rfl rfl rfl (fun _ _ => rd_el (v := .int _ _) _ 0 Tryz.one137 rfl (row_slc' (e := eW) (xs := h.l) (fun _ => rfl) (by first | rfl | omega | simp) (rfl) (Has.own 1 rfl)) rfl (by first | omega | (have := pad_le s; omega)) (Nat.le_of_ble_eq_true rfl) rfl) ?_
 refine DG.rd rfl rfl rfl (fun _ _ => rd_shr32 (k := 16) rfl rfl (rfl) (by decide)) ?_
 refine DG.rd rfl rfl rfl (fun _ _ => rd_conv32_8 Tryz.isome137 Tryz.under5 rfl) ?_
 refine DG.rd rfl rfl rfl (fun _ _ => rd_move (v := .slice _ _ _) rfl) ?_
 refine DG.rd rfl rfl rfl (fun _ _ => rd_move (v := .int _ _) rfl) ?_
 refine DG.rd rfl rfl rfl (fun _ _ => rd_ix Tryz.under138 Tryz.size137 rfl rfl (row_slc' (e := eW) (xs := h.l) (fun _ => rfl) (by first | rfl | omega | simp) (rfl) (Has.own 1 rfl)) rfl (by first | omega | (have := pad_le s; omega)) (by first | omega | (have := pad_le s; omega))) ?_
 refine DG.rd rfl rfl rfl (fun _ _ => rd_el (v := .int _ _) _ 0 Tryz.one137 rfl (row_slc' (e := eW) (xs := h.l) (fun _ => rfl) (by first | rfl | omega | simp) (rfl) (Has.own 1 rfl)) rfl (by first | omega | (have := pad_le s; omega)) (Nat.le_of_ble_eq_true rfl) rfl) ?_
 refine DG.rd rfl rfl rfl (fun _ _ => rd_shr32 (k := 8) rfl rfl (rfl) (by decide)) ?_
 refine DG.rd rfl rfl rfl (fun _ _ => rd_conv32_8 Tryz.isome137 Tryz.under5 rfl) ?_
 refine DG.rd rfl rfl rfl (fun _ _ => rd_move (v := .slice _ _ _) rfl) ?_
 refine DG.rd rfl rfl rfl (fun _ _ => rd_move (v := .int _ _) rfl) ?_
 refine DG.rd rfl rfl rfl (fun _ _ => rd_ix Tryz.under138 Tryz.size137 rfl rfl (row_slc' (e := eW) (xs := h.l) (fun _ => rfl) (by first | rfl | omega | simp) (rfl) (Has.own 1 rfl)) rfl (by first | omega | (have := pad_le s; omega)) (by first | omega | (have := pad_le s; omega))) ?_
 refine DG.rd rfl rfl rfl (fun _ _ => rd_el (v := .int _ _) _ 0 Tryz.one137 rfl (row_slc' (e := eW) (xs := h.l) (fun _ => rfl) (by first | rfl | omega | simp) (rfl) (Has.own 1 rfl)) rfl (by first | omega | (have := pad_le s; omega)) (Nat.le_of_ble_eq_true rfl) rfl) ?_
 refine DG.rd rfl rfl rfl (fun _ _ => rd_conv32_8 Tryz.isome137 Tryz.under5 rfl) ?_
 refine DG.buildS (cs := [.int _ _, .int _ _, .int _ _, .int _ _]) rfl rfl Tryz.under62 Tryz.size5 Tryz.zero5 (Nat.le_of_ble_eq_true rfl) (fun _ _ => rfl) ?_
 refine DG.done rfl (by decide) rfl (fun gh14 => ?_)
 refine TO.front1 ?_
 refine TO.app Tryz.trow5 Tryz.under62 (.inl ⟨_, Tryz.under62⟩) rfl rfl (Src.own1 1 rfl rfl) rfl rfl (by omega) (fun A15 c16 hc17 => ?_)
 refine TO.row_eq (cs' := bytesC ((h.l.take (k + 1)).flatMap be4)) rfl (by rw [← take_snoc (by omega), List.flatMap_append, bytesC_append]; rfl) ?_
 refine rdx (rd_assign (v := .slice _ _ _) rfl) ?_
 refine TO.nil (TQ.block_normal (TQ.then_normal (T.region ?_)))
 refine rdx (rd_move (v := .int _ _) rfl) ?_
 refine rdx (rd_add rfl rfl (w64 (by first | omega | (have := pad_le s; omega)) (by first | omega | (have := pad_le s; omega)))) ?_
 refine rdx (rd_assign (v := .int _ _) rfl) ?_
 refine TO.nil ?_
 refine TQ.againk (A15, c16, k + 1) ?_ ?_ (And.intro (rfl) (And.intro (rfl) (trivial))) (And.intro (rfl) (trivial)) (fun _ _ h => h.sel (js := [0, 2, 3]) (by decide))
 ·first | omega | (dsimp only; omega)
 ·first | omega | (dsimp only; omega)
theorem c_ref02_Leaf (s : Bytes) (hs : s.length ≤ 900000000000) : Cv Tryz.prog 79 #[.string (str s)] [] (.string (str (leafOf s))) := by
 refine Ctr.intro Tryz.func79 rfl Tryz.ntmps79 (Nat.le_of_ble_eq_true rfl) fun S0 w0 => ?_
 refine T.seq (T.region ?_)
 refine rdx (rd_assign (v := .string _) rfl) ?_
 refine TO.nil (TQ.then_normal (T.seq (T.region ?_)))
 refine rdx (rd_move (v := .string _) rfl) ?_
 refine rdx (rd_cat' rfl rfl (by first | omega | exact wishText_le _ | exact proxyText_le _ | exact puts3_le _ _ _ | (simp only [List.length_append, List.length_cons, List.length_nil, sha_len, leafOf_len, nodeOf_len, sealOf_len, List.length_take, List.length_drop]; omega) | (rw [keyB_len]; omega)) rfl) ?_
 refine TO.fn Tryz.enters78 (c_ref02_Sum _ (by first | omega | exact wishText_le _ | exact proxyText_le _ | exact puts3_le _ _ _ | (simp only [List.length_append, List.length_cons, List.length_nil, sha_len, leafOf_len, nodeOf_len, sealOf_len, List.length_take, List.length_drop]; omega) | (rw [keyB_len]; omega))) rfl Reads0 ?_
 refine rdx (rd_assign (v := .string _) rfl) ?_
 refine TO.nil (TQ.then_normal (T.ret ?_))
 refine TQ.value ?_ (res1 Tryz.results79 (Res.tmp (v := .string _) rfl)) _ (.inl rfl)
 rfl
theorem c_ref02_Node (a b : Bytes) (ha : a.length ≤ 400000000000) (hb : b.length ≤ 400000000000) : Cv Tryz.prog 91 #[.string (str a), .string (str b)] [] (.string (str (nodeOf a b))) := by
 refine Ctr.intro Tryz.func91 rfl Tryz.ntmps91 (Nat.le_of_ble_eq_true rfl) fun S0 w0 => ?_
 refine T.seq (T.region ?_)
 refine rdx (rd_assign (v := .string _) rfl) ?_
 refine TO.nil (TQ.then_normal (T.seq (T.region ?_)))
 refine rdx (rd_move (v := .string _) rfl) ?_
 refine rdx (rd_cat' rfl rfl (by first | omega | exact wishText_le _ | exact proxyText_le _ | exact puts3_le _ _ _ | (simp only [List.length_append, List.length_cons, List.length_nil, sha_len, leafOf_len, nodeOf_len, sealOf_len, List.length_take, List.length_drop]; omega) | (rw [keyB_len]; omega)) rfl) ?_
 refine rdx (rd_move (v := .string _) rfl) ?_
 refine rdx (rd_cat' rfl rfl (by first | omega | exact wishText_le _ | exact proxyText_le _ | exact puts3_le _ _ _ | (simp only [List.length_append, List.length_cons, List.length_nil, sha_len, leafOf_len, nodeOf_len, sealOf_len, List.length_take, List.length_drop]; omega) | (rw [keyB_len]; omega)) rfl) ?_
 refine TO.fn Tryz.enters78 (c_ref02_Sum _ (by first | omega | exact wishText_le _ | exact proxyText_le _ | exact puts3_le _ _ _ | (simp only [List.length_append, List.length_cons, List.length_nil, sha_len, leafOf_len, nodeOf_len, sealOf_len, List.length_take, List.length_drop]; omega) | (rw [keyB_len]; omega))) rfl Reads0 ?_
 refine rdx (rd_assign (v := .string _) rfl) ?_
 refine TO.nil (TQ.then_normal (T.ret ?_))
 refine TQ.value ?_ (res1 Tryz.results91 (Res.tmp (v := .string _) rfl)) _ (.inl rfl)
 rfl
theorem c_ref15_Seal (a b : Bytes) (ha : a.length ≤ 400000000000) (hb : b.length ≤ 400000000000) : Cv Tryz.prog 58 #[.string (str a), .string (str b)] [] (.string (str (sealOf a b))) := by
 refine Ctr.intro Tryz.func58 rfl Tryz.ntmps58 (Nat.le_of_ble_eq_true rfl) fun S0 w0 => ?_
 refine T.seq (T.region ?_)
 refine rdx (rd_assign (v := .string _) rfl) ?_
 refine TO.nil (TQ.then_normal (T.seq (T.region ?_)))
 refine rdx (rd_move (v := .string _) rfl) ?_
 refine rdx (rd_move (v := .string _) rfl) ?_
 refine TO.fn Tryz.enters79 (c_ref02_Leaf _ (by first | omega | exact wishText_le _ | exact proxyText_le _ | exact puts3_le _ _ _ | (simp only [List.length_append, List.length_cons, List.length_nil, sha_len, leafOf_len, nodeOf_len, sealOf_len, List.length_take, List.length_drop]; omega) | (rw [keyB_len]; omega))) rfl Reads0 ?_
 refine TO.fn Tryz.enters91 (c_ref02_Node _ _ (by first | omega | exact wishText_le _ | exact proxyText_le _ | exact puts3_le _ _ _ | (simp only [List.length_append, List.length_cons, List.length_nil, sha_len, leafOf_len, nodeOf_len, sealOf_len, List.length_take, List.length_drop]; omega) | (rw [keyB_len]; omega)) (by first | omega | exact wishText_le _ | exact proxyText_le _ | exact puts3_le _ _ _ | (simp only [List.length_append, List.length_cons, List.length_nil, sha_len, leafOf_len, nodeOf_len, sealOf_len, List.length_take, List.length_drop]; omega) | (rw [keyB_len]; omega))) rfl Reads0 ?_
 refine rdx (rd_assign (v := .string _) rfl) ?_
 refine TO.nil (TQ.then_normal (T.ret ?_))
 refine TQ.value ?_ (res1 Tryz.results58 (Res.tmp (v := .string _) rfl)) _ (.inl rfl)
 rfl
end Go.Proofs
end
section
set_option linter.unusedVariables false
set_option linter.unusedSimpArgs false
set_option maxRecDepth 100000
set_option maxHeartbeats 800000
namespace Go.Proofs
open Go.TL
attribute [local irreducible] Go.TL.T Go.TL.TO Go.TL.TQ
theorem c_ref15_pick (c n : Int) (c0 : -9223372036854775808 ≤ c) (c1 : c ≤ 9223372036854775807) (hn0 : 0 < n) (hn1 : n ≤ 9223372036854775807) : Cv Tryz.prog 40 #[.int .i64 c, .int .i64 n] [] (.int .i64 (pickN c n)) := by
 refine Ctr.intro Tryz.func40 rfl Tryz.ntmps40 (Nat.le_of_ble_eq_true rfl) fun S0 w0 => ?_
 refine T.seq (T.region ?_)
 refine rdx (rd_assign (v := .int _ _) rfl) ?_
 refine TO.nil (TQ.then_normal (T.seq (T.seq (T.region ?_))))
 refine rdx (rd_move (v := .int _ _) rfl) ?_
 refine rdx (rd_lss rfl rfl) ?_
 refine TO.nil (TQ.then_normal ?_)
 refine T.cond_ft rfl (fun h1 => ?_) (fun h1 => ?_)
 ·try simp only [nrm] at h1
  refine T.skip (TQ.then_normal (T.seq (T.region ?_)))
  refine rdx (rd_move (v := .int _ _) rfl) ?_
  refine rdx (rd_move (v := .int _ _) rfl) ?_
  refine rdx (rd_rem rfl rfl (by omega) (Int.tmod_eq_emod_of_nonneg (by omega))) ?_
  refine rdx (rd_assign (v := .int _ _) rfl) ?_
  refine TO.nil (TQ.then_normal (T.ret ?_))
  refine TQ.value ?_ (res1 Tryz.results40 (Res.tmp (v := .int _ _) rfl)) _ (.inl rfl)
  rw [pickN, if_neg (by omega)]
 try simp only [nrm] at h1
 refine T.region ?_
 refine rdx (rd_move (v := .int _ _) rfl) ?_
 refine rdx (rd_add rfl rfl (w64 (by omega) (by omega))) ?_
 refine rdx (rd_neg rfl (w64 (by omega) (by omega))) ?_
 refine rdx (rd_assign (v := .int _ _) rfl) ?_
 refine TO.nil (TQ.then_normal (T.seq (T.region ?_)))
 refine rdx (rd_move (v := .int _ _) rfl) ?_
 refine rdx (rd_move (v := .int _ _) rfl) ?_
 refine rdx (rd_rem rfl rfl (by omega) (Int.tmod_eq_emod_of_nonneg (by omega))) ?_
 refine rdx (rd_assign (v := .int _ _) rfl) ?_
 refine TO.nil (TQ.then_normal (T.ret ?_))
 refine TQ.value ?_ (res1 Tryz.results40 (Res.tmp (v := .int _ _) rfl)) _ (.inl rfl)
 rw [pickN, if_pos (by omega)]; congr 1; congr 1; omega
theorem c_law15_pick (c n : Int) (c0 : -9223372036854775808 ≤ c) (c1 : c ≤ 9223372036854775807) (hn0 : 0 < n) (hn1 : n ≤ 9223372036854775807) : Cv Tryz.prog 9 #[.int .i64 c, .int .i64 n] [] (.int .i64 (pickN c n)) := by
 refine Ctr.intro Tryz.func9 rfl Tryz.ntmps9 (Nat.le_of_ble_eq_true rfl) fun S0 w0 => ?_
 refine T.seq (T.region ?_)
 refine rdx (rd_assign (v := .int _ _) rfl) ?_
 refine TO.nil (TQ.then_normal (T.seq (T.seq (T.region ?_))))
 refine rdx (rd_move (v := .int _ _) rfl) ?_
 refine rdx (rd_lss rfl rfl) ?_
 refine TO.nil (TQ.then_normal ?_)
 refine T.cond_ft rfl (fun h1 => ?_) (fun h1 => ?_)
 ·try simp only [nrm] at h1
  refine T.skip (TQ.then_normal (T.seq (T.region ?_)))
  refine rdx (rd_move (v := .int _ _) rfl) ?_
  refine rdx (rd_move (v := .int _ _) rfl) ?_
  refine rdx (rd_rem rfl rfl (by omega) (Int.tmod_eq_emod_of_nonneg (by omega))) ?_
  refine rdx (rd_assign (v := .int _ _) rfl) ?_
  refine TO.nil (TQ.then_normal (T.ret ?_))
  refine TQ.value ?_ (res1 Tryz.results9 (Res.tmp (v := .int _ _) rfl)) _ (.inl rfl)
  rw [pickN, if_neg (by omega)]
 try simp only [nrm] at h1
 refine T.region ?_
 refine rdx (rd_move (v := .int _ _) rfl) ?_
 refine rdx (rd_add rfl rfl (w64 (by omega) (by omega))) ?_
 refine rdx (rd_neg rfl (w64 (by omega) (by omega))) ?_
 refine rdx (rd_assign (v := .int _ _) rfl) ?_
 refine TO.nil (TQ.then_normal (T.seq (T.region ?_)))
 refine rdx (rd_move (v := .int _ _) rfl) ?_
 refine rdx (rd_move (v := .int _ _) rfl) ?_
 refine rdx (rd_rem rfl rfl (by omega) (Int.tmod_eq_emod_of_nonneg (by omega))) ?_
 refine rdx (rd_assign (v := .int _ _) rfl) ?_
 refine TO.nil (TQ.then_normal (T.ret ?_))
 refine TQ.value ?_ (res1 Tryz.results9 (Res.tmp (v := .int _ _) rfl)) _ (.inl rfl)
 rw [pickN, if_pos (by omega)]; congr 1; congr 1; omega
theorem c_ref15_narrowed (a b l r : Int) (ha : 0 ≤ a) (hab : a < b) (hb : b ≤ 1000000000000) (l0 : -9223372036854775808 ≤ l) (l1 : l ≤ 9223372036854775807) (r0 : -9223372036854775808 ≤ r) (r1 : r ≤ 9223372036854775807) : Cv Tryz.prog 41 #[.int .i64 a, .int .i64 b, .int .i64 l, .int .i64 r] [] (.tuple #[.int .i64 (narrowA a b l), .int .i64 (narrowB a b l r)]) := by
 refine Ctr.intro Tryz.func41 rfl Tryz.ntmps41 (Nat.le_of_ble_eq_true rfl) fun S0 w0 => ?_
 refine T.seq (T.region ?_)
 refine rdx (rd_assign (v := .int _ _) rfl) ?_
 refine rdx (rd_assign (v := .int _ _) rfl) ?_
 refine TO.nil (TQ.then_normal (T.seq (T.region ?_)))
 refine rdx (rd_move (v := .int _ _) rfl) ?_
 refine rdx (rd_move (v := .int _ _) rfl) ?_
 refine rdx (rd_move (v := .int _ _) rfl) ?_
 refine rdx (rd_move (v := .int _ _) rfl) ?_
 refine rdx (rd_sub rfl rfl (w64 (by omega) (by omega))) ?_
 refine TO.fn Tryz.enters40 (c_ref15_pick _ _ (by omega) (by omega) (by omega) (by omega)) rfl Reads0 ?_
 have e1 := pickN_lo (c := l) (n := b - a) (by omega)
 have e2 := pickN_hi (c := l) (n := b - a) (by omega)
 refine rdx (rd_add rfl rfl (w64 (by omega) (by omega))) ?_
 refine rdx (rd_assign (v := .int _ _) rfl) ?_
 refine TO.nil (TQ.then_normal (T.seq (T.region ?_)))
 refine rdx (rd_move (v := .int _ _) rfl) ?_
 refine rdx (rd_move (v := .int _ _) rfl) ?_
 refine rdx (rd_move (v := .int _ _) rfl) ?_
 refine rdx (rd_move (v := .int _ _) rfl) ?_
 refine rdx (rd_move (v := .int _ _) rfl) ?_
 refine rdx (rd_sub rfl rfl (w64 (by omega) (by omega))) ?_
 refine TO.fn Tryz.enters40 (c_ref15_pick _ _ (by omega) (by omega) (by omega) (by omega)) rfl Reads0 ?_
 have e3 := pickN_lo (c := r) (n := b - (a + pickN l (b - a))) (by omega)
 have e4 := pickN_hi (c := r) (n := b - (a + pickN l (b - a))) (by omega)
 refine rdx (rd_sub rfl rfl (w64 (by omega) (by omega))) ?_
 refine rdx (rd_assign (v := .int _ _) rfl) ?_
 refine rdx (rd_assign (v := .int _ _) rfl) ?_
 refine TO.nil (TQ.then_normal (T.ret ?_))
 refine TQ.value ?_ (res2 Tryz.results41 (Res.tmp (v := .int _ _) rfl) (Res.tmp (v := .int _ _) rfl)) _ (.inl rfl)
 rfl
theorem c_ref15_Formed (w : Wish) (A : Option Addr) (cap n : Nat) (l : List Proxy) (hn : n = l.length) : Cv Tryz.prog 18 #[wishV w, .slice A n cap] [slc proxyL 7 A l] (.bool (formedOk w l)) := by
 subst hn
 refine Ctr.intro Tryz.func18 rfl Tryz.ntmps18 (Nat.le_of_ble_eq_true rfl) fun S0 w0 => ?_
 refine T.seq (T.region ?_)
 refine TO.box (v := .agg #[.int _ _, .int _ _, .int _ _, .int _ _, .int _ _, .int _ _, .int _ _, .int _ _, .string _]) rfl (fun b1 => ?_)
 refine rdx (rd_assign (v := .bool _) rfl) ?_
 refine TO.nil (TQ.then_normal (T.seq (T.seq (T.region ?_))))
 refine rdx (rd_load_agg (cs := #[.int _ _, .int _ _, .int _ _, .int _ _, .int _ _, .int _ _, .int _ _, .int _ _, .string _]) Tryz.agg30 rfl (Has.own 0 rfl) rfl rfl) ?_
 refine TO.fn Tryz.enters55 (c_ref15_wish _) rfl Reads0 ?_
 refine rdx (rd_not rfl) ?_
 refine rdx (rd_move (v := .bool _) rfl) ?_
 refine TO.decide (s := 9) rfl (fun h2 => ?_) (fun h2 => ?_)
 ·try simp only [nrm] at h2
  refine TO.guard_false (s := 9) (b' := true) rfl rfl nofun ?_
  refine TO.guard_false (s := 9) (b' := true) rfl rfl nofun ?_
  refine TO.guard_false (s := 9) (b' := true) rfl rfl nofun ?_
  refine rdx (rd_pick_true (v := .bool _) rfl rfl) ?_
  refine TO.nil (TQ.then_normal ?_)
  refine T.cond_true rfl ?_
  refine T.seq (T.region ?_)
  refine rdx (rd_assign (v := .bool _) rfl) ?_
  refine TO.nil (TQ.then_normal (T.ret (TQ.then_ret ?_)))
  refine TQ.value ?_ (res1 Tryz.results18 (Res.tmp (v := .bool _) rfl)) _ (.inl rfl)
  rw [formedOk, h2]; rfl
 try simp only [nrm] at h2
 refine TO.guard_true (s := 9) rfl rfl ?_
 refine rdx (rd_move (v := .slice _ _ _) rfl) ?_
 refine TO.guard_true (s := 9) rfl rfl ?_
 refine rdx (rd_lensl Tryz.under31 rfl) ?_
 refine TO.guard_true (s := 9) rfl rfl ?_
 refine rdx (rd_gtr rfl rfl) ?_
 refine rdx (rd_pick_false (v := .bool _) rfl rfl) ?_
 refine TO.nil (TQ.then_normal ?_)
 refine T.cond rfl (fun h3 => ?_) (fun h3 => ?_)
 ·try simp only [nrm] at h3
  refine T.seq (T.region ?_)
  refine rdx (rd_assign (v := .bool _) rfl) ?_
  refine TO.nil (TQ.then_normal (T.ret (TQ.then_ret ?_)))
  refine TQ.value ?_ (res1 Tryz.results18 (Res.tmp (v := .bool _) rfl)) _ (.inl rfl)
  rw [formedOk, show decide (l.length ≤ 4) = false by simp; omega]; simp
 try simp only [nrm] at h3
 refine T.skip (TQ.then_normal (T.seq (T.seq (T.region ?_))))
 refine rdx (rd_assign (v := .int _ _) rfl) ?_
 refine TO.nil (TQ.then_normal (T.block ?_))
 refine T.loop1 [1] (fun (k : Nat) => [(5, .int .i64 (k : Nat))]) (fun (k : Nat) => []) (fun (k : Nat) => k ≤ l.length ∧ (l.take k).all proxyOk = true) (fun (k : Nat) => l.length - k) (0) (⟨Nat.zero_le _, rfl⟩) (And.intro (rfl) (trivial)) (fun _ _ h => h) fun k g0 hx0 => ?_
 obtain ⟨hk, hk0⟩ := hx0
 refine T.seq (T.seq (T.region ?_))
 refine rdx (rd_move (v := .int _ _) rfl) ?_
 refine rdx (rd_move (v := .slice _ _ _) rfl) ?_
 refine rdx (rd_lensl Tryz.under31 rfl) ?_
 refine rdx (rd_lss rfl rfl) ?_
 refine TO.nil (TQ.then_normal ?_)
 refine T.cond_ft rfl (fun h4 => ?_) (fun h4 => ?_)
 ·try simp only [nrm] at h4
  refine T.exit (TQ.then_exit (TQ.then_exit (TQ.block_out (TQ.then_normal (T.seq (T.region ?_))))))
  refine rdx (rd_assign (v := .bool _) rfl) ?_
  refine TO.nil (TQ.then_normal (T.ret ?_))
  refine TQ.value ?_ (res1 Tryz.results18 (Res.tmp (v := .bool _) rfl)) _ (.inl rfl)
  rw [formedOk, h2, show decide (l.length ≤ 4) = true by simp; omega, all_done hk0 (by omega)]; rfl
 try simp only [nrm] at h4
 refine T.skip (TQ.then_normal (T.seq (T.block (T.seq (T.region ?_)))))
 refine rdx (rd_move (v := .slice _ _ _) rfl) ?_
 refine rdx (rd_move (v := .int _ _) rfl) ?_
 refine rdx (rd_ix Tryz.under31 Tryz.size40 rfl rfl (Has.arg 0 rfl) rfl (by omega) (by omega)) ?_
 refine rdx (rd_ela (cs := [.int _ _, .int _ _, .int _ _, .int _ _, .int _ _, .int _ _, .string _]) _ 0 Tryz.agg40 rfl (Has.arg 0 rfl) rfl (by omega) (Nat.le_of_ble_eq_true rfl) rfl rfl rfl) ?_
 refine TO.fn Tryz.enters56 (c_ref15_proxy _) rfl Reads0 ?_
 refine rdx (rd_not rfl) ?_
 refine TO.nil (TQ.then_normal ?_)
 refine T.cond_ft rfl (fun h5 => ?_) (fun h5 => ?_)
 ·try simp only [nrm] at h5
  refine T.skip (TQ.block_normal (TQ.then_normal (T.region ?_)))
  refine rdx (rd_move (v := .int _ _) rfl) ?_
  refine rdx (rd_add rfl rfl (w64 (by omega) (by omega))) ?_
  refine rdx (rd_assign (v := .int _ _) rfl) ?_
  refine TO.nil ?_
  refine TQ.againk (k + 1) ?_ ?_ (And.intro (rfl) (trivial)) (And.intro (rfl) (trivial)) (fun _ _ h => h)
  ·exact ⟨by first | omega | (dsimp only; omega), all_next (by omega) hk0 (by assumption)⟩
  ·first | omega | (dsimp only; omega)
 try simp only [nrm] at h5
 refine T.seq (T.region ?_)
 refine rdx (rd_assign (v := .bool _) rfl) ?_
 refine TO.nil (TQ.then_normal (T.ret (TQ.block_ret (TQ.then_ret (TQ.then_ret (TQ.block_ret (TQ.then_ret ?_)))))))
 refine TQ.value ?_ (res1 Tryz.results18 (Res.tmp (v := .bool _) rfl)) _ (.inl rfl)
 rw [formedOk, show l.all proxyOk = false from all_false hk0 (by assumption)]; simp
end Go.Proofs
end
section
set_option linter.unusedVariables false
set_option linter.unusedSimpArgs false
set_option maxRecDepth 100000
set_option maxHeartbeats 800000
namespace Go.Proofs
open Go.TL
attribute [local irreducible] Go.TL.T Go.TL.TO Go.TL.TQ
theorem c_ref15_SignWish (k : Bytes) (w : Wish) (hk : k.length ≤ 1000000000) : Cv Tryz.prog 21 #[.string (str k), wishV w] [] (.tuple #[wishV (signW k w).1, .int .i64 (signW k w).2]) := by
 refine Ctr.intro Tryz.func21 rfl Tryz.ntmps21 (Nat.le_of_ble_eq_true rfl) fun S0 w0 => ?_
 refine T.seq (T.region ?_)
 refine TO.box (v := .agg #[.int _ _, .int _ _, .int _ _, .int _ _, .int _ _, .int _ _, .int _ _, .int _ _, .string _]) rfl (fun b1 => ?_)
 refine TO.alloc Tryz.zero30 (fun b2 => ?_)
 refine rdx (rd_assign (v := .int _ _) rfl) ?_
 refine TO.nil (TQ.then_normal (T.seq (T.seq (T.region ?_))))
 refine rdx (rd_move (v := .string _) rfl) ?_
 refine rdx (rd_lens' Tryz.under9 rfl) ?_
 refine rdx (rd_neq rfl rfl) ?_
 refine rdx (rd_move (v := .bool _) rfl) ?_
 refine TO.decide (s := 9) rfl (fun h3 => ?_) (fun h3 => ?_)
 ·try simp only [nrm] at h3
  refine TO.guard_false (s := 9) (b' := true) rfl rfl nofun ?_
  refine TO.guard_false (s := 9) (b' := true) rfl rfl nofun ?_
  refine TO.guard_false (s := 9) (b' := true) rfl rfl nofun ?_
  refine rdx (rd_pick_true (v := .bool _) rfl rfl) ?_
  refine TO.nil (TQ.then_normal ?_)
  refine T.cond_true rfl ?_
  refine T.seq (T.region ?_)
  refine rdx (rd_build (cs := [.int _ _, .int _ _, .int _ _, .int _ _, .int _ _, .int _ _, .int _ _, .int _ _, .string _]) Tryz.places30 Tryz.zero30 rfl rfl) ?_
  refine TO.store0 (cells' := #[.int _ _, .int _ _, .int _ _, .int _ _, .int _ _, .int _ _, .int _ _, .int _ _, .string _]) Tryz.size30 rfl (v := .agg #[.int _ _, .int _ _, .int _ _, .int _ _, .int _ _, .int _ _, .int _ _, .int _ _, .string _]) rfl rfl rfl (Nat.le_of_ble_eq_true rfl) rfl ?_
  refine rdx (rd_assign (v := .int _ _) rfl) ?_
  refine TO.nil (TQ.then_normal (T.ret (TQ.then_ret ?_)))
  refine TQ.value ?_ (res2 Tryz.results21 (Res.cells (cs := #[.int _ _, .int _ _, .int _ _, .int _ _, .int _ _, .int _ _, .int _ _, .int _ _, .string _]) Tryz.agg30 rfl (Has.own 0 rfl) rfl rfl) (Res.tmp (v := .int _ _) rfl)) _ (.inl rfl)
  rw [signW, if_neg (by rintro ⟨e1, e2⟩; first | omega | simp_all)]; rfl
 try simp only [nrm] at h3
 refine TO.guard_true (s := 9) rfl rfl ?_
 refine rdx (rd_load_agg (cs := #[.int _ _, .int _ _, .int _ _, .int _ _, .int _ _, .int _ _, .int _ _, .int _ _, .string _]) Tryz.agg30 rfl (Has.own 1 rfl) rfl rfl) ?_
 refine TO.guard_true (s := 9) rfl rfl ?_
 refine TO.fn Tryz.enters55 (c_ref15_wish _) rfl Reads0 ?_
 refine TO.guard_true (s := 9) rfl rfl ?_
 refine rdx (rd_not rfl) ?_
 refine rdx (rd_pick_false (v := .bool _) rfl rfl) ?_
 refine TO.nil (TQ.then_normal ?_)
 refine T.cond rfl (fun h4 => ?_) (fun h4 => ?_)
 ·try simp only [nrm] at h4
  refine T.seq (T.region ?_)
  refine rdx (rd_build (cs := [.int _ _, .int _ _, .int _ _, .int _ _, .int _ _, .int _ _, .int _ _, .int _ _, .string _]) Tryz.places30 Tryz.zero30 rfl rfl) ?_
  refine TO.store0 (cells' := #[.int _ _, .int _ _, .int _ _, .int _ _, .int _ _, .int _ _, .int _ _, .int _ _, .string _]) Tryz.size30 rfl (v := .agg #[.int _ _, .int _ _, .int _ _, .int _ _, .int _ _, .int _ _, .int _ _, .int _ _, .string _]) rfl rfl rfl (Nat.le_of_ble_eq_true rfl) rfl ?_
  refine rdx (rd_assign (v := .int _ _) rfl) ?_
  refine TO.nil (TQ.then_normal (T.ret (TQ.then_ret ?_)))
  refine TQ.value ?_ (res2 Tryz.results21 (Res.cells (cs := #[.int _ _, .int _ _, .int _ _, .int _ _, .int _ _, .int _ _, .int _ _, .int _ _, .string _]) Tryz.agg30 rfl (Has.own 0 rfl) rfl rfl) (Res.tmp (v := .int _ _) rfl)) _ (.inl rfl)
  rw [signW, if_neg (by rintro ⟨e1, e2⟩; first | omega | simp_all)]; rfl
 try simp only [nrm] at h4
 refine T.skip (TQ.then_normal (T.seq (T.region ?_)))
 refine rdx (rd_move (v := .string _) rfl) ?_
 refine rdx (rd_load_agg (cs := #[.int _ _, .int _ _, .int _ _, .int _ _, .int _ _, .int _ _, .int _ _, .int _ _, .string _]) Tryz.agg30 rfl (Has.own 1 rfl) rfl rfl) ?_
 refine TO.fn Tryz.enters35 (c_ref15_WishContent _) rfl Reads0 ?_
 refine TO.fn Tryz.enters58 (c_ref15_Seal _ _ (by first | omega | exact wishText_le _ | exact proxyText_le _ | exact puts3_le _ _ _ | (simp only [List.length_append, List.length_cons, List.length_nil, sha_len, leafOf_len, nodeOf_len, sealOf_len, List.length_take, List.length_drop]; omega) | (rw [keyB_len]; omega)) (by first | omega | exact wishText_le _ | exact proxyText_le _ | exact puts3_le _ _ _ | (simp only [List.length_append, List.length_cons, List.length_nil, sha_len, leafOf_len, nodeOf_len, sealOf_len, List.length_take, List.length_drop]; omega) | (rw [keyB_len]; omega))) rfl Reads0 ?_
 refine rdx (rd_fieldAddr Tryz.field30_6 rfl) ?_
 refine TO.front1 ?_
 refine TO.store0 (cells' := #[.int _ _, .int _ _, .int _ _, .int _ _, .int _ _, .int _ _, .int _ _, .int _ _, .string _]) Tryz.size9 rfl (v := .string _) rfl rfl rfl (Nat.le_of_ble_eq_true rfl) rfl ?_
 refine TO.nil (TQ.then_normal (T.seq (T.region ?_)))
 refine rdx (rd_load_agg (cs := #[.int _ _, .int _ _, .int _ _, .int _ _, .int _ _, .int _ _, .int _ _, .int _ _, .string _]) Tryz.agg30 rfl (Has.own 0 rfl) rfl rfl) ?_
 refine TO.front1 ?_
 refine TO.store0 (cells' := #[.int _ _, .int _ _, .int _ _, .int _ _, .int _ _, .int _ _, .int _ _, .int _ _, .string _]) Tryz.size30 rfl (v := .agg #[.int _ _, .int _ _, .int _ _, .int _ _, .int _ _, .int _ _, .int _ _, .int _ _, .string _]) rfl rfl rfl (Nat.le_of_ble_eq_true rfl) rfl ?_
 refine rdx (rd_assign (v := .int _ _) rfl) ?_
 refine TO.nil (TQ.then_normal (T.ret ?_))
 refine TQ.value ?_ (res2 Tryz.results21 (Res.cells (cs := #[.int _ _, .int _ _, .int _ _, .int _ _, .int _ _, .int _ _, .int _ _, .int _ _, .string _]) Tryz.agg30 rfl (Has.own 0 rfl) rfl rfl) (Res.tmp (v := .int _ _) rfl)) _ (.inl rfl)
 rw [signW, if_pos ⟨by omega, by simp_all⟩]; rfl
theorem c_ref15_SignProxy (k : Bytes) (w : Proxy) (hk : k.length ≤ 1000000000) : Cv Tryz.prog 23 #[.string (str k), proxyV w] [] (.tuple #[proxyV (signP k w).1, .int .i64 (signP k w).2]) := by
 refine Ctr.intro Tryz.func23 rfl Tryz.ntmps23 (Nat.le_of_ble_eq_true rfl) fun S0 w0 => ?_
 refine T.seq (T.region ?_)
 refine TO.box (v := .agg #[.int _ _, .int _ _, .int _ _, .int _ _, .int _ _, .int _ _, .string _]) rfl (fun b1 => ?_)
 refine TO.alloc Tryz.zero40 (fun b2 => ?_)
 refine rdx (rd_assign (v := .int _ _) rfl) ?_
 refine TO.nil (TQ.then_normal (T.seq (T.seq (T.region ?_))))
 refine rdx (rd_move (v := .string _) rfl) ?_
 refine rdx (rd_lens' Tryz.under9 rfl) ?_
 refine rdx (rd_neq rfl rfl) ?_
 refine rdx (rd_move (v := .bool _) rfl) ?_
 refine TO.decide (s := 9) rfl (fun h3 => ?_) (fun h3 => ?_)
 ·try simp only [nrm] at h3
  refine TO.guard_false (s := 9) (b' := true) rfl rfl nofun ?_
  refine TO.guard_false (s := 9) (b' := true) rfl rfl nofun ?_
  refine TO.guard_false (s := 9) (b' := true) rfl rfl nofun ?_
  refine rdx (rd_pick_true (v := .bool _) rfl rfl) ?_
  refine TO.nil (TQ.then_normal ?_)
  refine T.cond_true rfl ?_
  refine T.seq (T.region ?_)
  refine rdx (rd_build (cs := [.int _ _, .int _ _, .int _ _, .int _ _, .int _ _, .int _ _, .string _]) Tryz.places40 Tryz.zero40 rfl rfl) ?_
  refine TO.store0 (cells' := #[.int _ _, .int _ _, .int _ _, .int _ _, .int _ _, .int _ _, .string _]) Tryz.size40 rfl (v := .agg #[.int _ _, .int _ _, .int _ _, .int _ _, .int _ _, .int _ _, .string _]) rfl rfl rfl (Nat.le_of_ble_eq_true rfl) rfl ?_
  refine rdx (rd_assign (v := .int _ _) rfl) ?_
  refine TO.nil (TQ.then_normal (T.ret (TQ.then_ret ?_)))
  refine TQ.value ?_ (res2 Tryz.results23 (Res.cells (cs := #[.int _ _, .int _ _, .int _ _, .int _ _, .int _ _, .int _ _, .string _]) Tryz.agg40 rfl (Has.own 0 rfl) rfl rfl) (Res.tmp (v := .int _ _) rfl)) _ (.inl rfl)
  rw [signP, if_neg (by rintro ⟨e1, e2⟩; first | omega | simp_all)]; rfl
 try simp only [nrm] at h3
 refine TO.guard_true (s := 9) rfl rfl ?_
 refine rdx (rd_load_agg (cs := #[.int _ _, .int _ _, .int _ _, .int _ _, .int _ _, .int _ _, .string _]) Tryz.agg40 rfl (Has.own 1 rfl) rfl rfl) ?_
 refine TO.guard_true (s := 9) rfl rfl ?_
 refine TO.fn Tryz.enters56 (c_ref15_proxy _) rfl Reads0 ?_
 refine TO.guard_true (s := 9) rfl rfl ?_
 refine rdx (rd_not rfl) ?_
 refine rdx (rd_pick_false (v := .bool _) rfl rfl) ?_
 refine TO.nil (TQ.then_normal ?_)
 refine T.cond rfl (fun h4 => ?_) (fun h4 => ?_)
 ·try simp only [nrm] at h4
  refine T.seq (T.region ?_)
  refine rdx (rd_build (cs := [.int _ _, .int _ _, .int _ _, .int _ _, .int _ _, .int _ _, .string _]) Tryz.places40 Tryz.zero40 rfl rfl) ?_
  refine TO.store0 (cells' := #[.int _ _, .int _ _, .int _ _, .int _ _, .int _ _, .int _ _, .string _]) Tryz.size40 rfl (v := .agg #[.int _ _, .int _ _, .int _ _, .int _ _, .int _ _, .int _ _, .string _]) rfl rfl rfl (Nat.le_of_ble_eq_true rfl) rfl ?_
  refine rdx (rd_assign (v := .int _ _) rfl) ?_
  refine TO.nil (TQ.then_normal (T.ret (TQ.then_ret ?_)))
  refine TQ.value ?_ (res2 Tryz.results23 (Res.cells (cs := #[.int _ _, .int _ _, .int _ _, .int _ _, .int _ _, .int _ _, .string _]) Tryz.agg40 rfl (Has.own 0 rfl) rfl rfl) (Res.tmp (v := .int _ _) rfl)) _ (.inl rfl)
  rw [signP, if_neg (by rintro ⟨e1, e2⟩; first | omega | simp_all)]; rfl
 try simp only [nrm] at h4
 refine T.skip (TQ.then_normal (T.seq (T.region ?_)))
 refine rdx (rd_move (v := .string _) rfl) ?_
 refine rdx (rd_load_agg (cs := #[.int _ _, .int _ _, .int _ _, .int _ _, .int _ _, .int _ _, .string _]) Tryz.agg40 rfl (Has.own 1 rfl) rfl rfl) ?_
 refine TO.fn Tryz.enters36 (c_ref15_ProxyContent _) rfl Reads0 ?_
 refine TO.fn Tryz.enters58 (c_ref15_Seal _ _ (by first | omega | exact wishText_le _ | exact proxyText_le _ | exact puts3_le _ _ _ | (simp only [List.length_append, List.length_cons, List.length_nil, sha_len, leafOf_len, nodeOf_len, sealOf_len, List.length_take, List.length_drop]; omega) | (rw [keyB_len]; omega)) (by first | omega | exact wishText_le _ | exact proxyText_le _ | exact puts3_le _ _ _ | (simp only [List.length_append, List.length_cons, List.length_nil, sha_len, leafOf_len, nodeOf_len, sealOf_len, List.length_take, List.length_drop]; omega) | (rw [keyB_len]; omega))) rfl Reads0 ?_
 refine rdx (rd_fieldAddr Tryz.field40_4 rfl) ?_
 refine TO.front1 ?_
 refine TO.store0 (cells' := #[.int _ _, .int _ _, .int _ _, .int _ _, .int _ _, .int _ _, .string _]) Tryz.size9 rfl (v := .string _) rfl rfl rfl (Nat.le_of_ble_eq_true rfl) rfl ?_
 refine TO.nil (TQ.then_normal (T.seq (T.region ?_)))
 refine rdx (rd_load_agg (cs := #[.int _ _, .int _ _, .int _ _, .int _ _, .int _ _, .int _ _, .string _]) Tryz.agg40 rfl (Has.own 0 rfl) rfl rfl) ?_
 refine TO.front1 ?_
 refine TO.store0 (cells' := #[.int _ _, .int _ _, .int _ _, .int _ _, .int _ _, .int _ _, .string _]) Tryz.size40 rfl (v := .agg #[.int _ _, .int _ _, .int _ _, .int _ _, .int _ _, .int _ _, .string _]) rfl rfl rfl (Nat.le_of_ble_eq_true rfl) rfl ?_
 refine rdx (rd_assign (v := .int _ _) rfl) ?_
 refine TO.nil (TQ.then_normal (T.ret ?_))
 refine TQ.value ?_ (res2 Tryz.results23 (Res.cells (cs := #[.int _ _, .int _ _, .int _ _, .int _ _, .int _ _, .int _ _, .string _]) Tryz.agg40 rfl (Has.own 0 rfl) rfl rfl) (Res.tmp (v := .int _ _) rfl)) _ (.inl rfl)
 rw [signP, if_pos ⟨by omega, by simp_all⟩]; rfl
theorem c_ref15_hex (s : Bytes) (hs : 8 ≤ s.length) (hs2 : s.length ≤ 1000000000) : Cv Tryz.prog 76 #[.string (str s)] [] (.string (str (hexOf s))) := by
 refine Ctr.intro Tryz.func76 rfl Tryz.ntmps76 (Nat.le_of_ble_eq_true rfl) fun S0 w0 => ?_
 refine T.seq (T.region ?_)
 refine rdx (rd_assign (v := .string _) rfl) ?_
 refine TO.nil (TQ.then_normal (T.seq (T.region ?_)))
 refine rdx (rd_assign (v := .string _) rfl) ?_
 refine TO.nil (TQ.then_normal (T.seq (T.seq (T.region ?_))))
 refine rdx (rd_assign (v := .int _ _) rfl) ?_
 refine TO.nil (TQ.then_normal (T.block ?_))
 refine T.loop1 [0] (fun (k : Nat) => [(4, .int .i64 (k : Nat)), (3, .string (str ((s.take k).flatMap hexByte)))]) (fun (k : Nat) => []) (fun (k : Nat) => k ≤ 8) (fun (k : Nat) => 8 - k) (0) (Nat.zero_le _) (And.intro (rfl) (And.intro (rfl) (trivial))) (fun _ _ h => h) fun k g0 hx0 => ?_
 refine T.seq (T.seq (T.region ?_))
 refine rdx (rd_move (v := .int _ _) rfl) ?_
 refine rdx (rd_lss rfl rfl) ?_
 refine TO.nil (TQ.then_normal ?_)
 refine T.cond_ft rfl (fun h1 => ?_) (fun h1 => ?_)
 ·try simp only [nrm] at h1
  refine T.exit (TQ.then_exit (TQ.then_exit (TQ.block_out (TQ.then_normal (T.seq (T.region ?_))))))
  refine rdx (rd_move (v := .string _) rfl) ?_
  refine rdx (rd_assign (v := .string _) rfl) ?_
  refine TO.nil (TQ.then_normal (T.ret ?_))
  refine TQ.value ?_ (res1 Tryz.results76 (Res.tmp (v := .string _) rfl)) _ (.inl rfl)
  rw [hexOf, show k = 8 by omega]
 try simp only [nrm] at h1
 refine T.skip (TQ.then_normal (T.seq (T.block ?_)))
 refine T.drawq Tryz.mixes 22 [(9, 0), (10, 1), (11, 2), (12, 3), (13, 4), (14, 5), (15, 6), (16, 7), (17, 8), (18, 9), (19, 10), (20, 11), (21, 12), (22, 13), (23, 14), (24, 15), (25, 16), (26, 17), (27, 18), (28, 19), (29, 20), (30, 21)] [0, 0, 0, 6, 14, 0, 0, 96, 224, 480, 1022, 2047, 0, 0, 12288, 28672, 0, 0, 196608, 458752, 983040, 2093056, 4194303, 8388607] (by kernel_rfl) ?_
 refine DQ.rd rfl rfl (fun _ => rd_move (v := .string _) rfl) ?_
 refine DQ.rd rfl rfl (fun _ => rd_move (v := .string _) rfl) ?_
 refine DQ.rd rfl rfl (fun _ => rd_move (v := .int _ _) rfl) ?_
 refine DQ.rd rfl rfl (fun _ => rd_idxs (a := s) (j := k) Tryz.under9 rfl rfl rfl (by omega)) ?_
 refine DQ.rd rfl rfl (fun _ => rd_quo8 (m := 16) rfl rfl rfl (by decide) (UInt8.toNat_lt _)) ?_
 refine DQ.rd rfl rfl (fun _ => rd_move (v := .string _) rfl) ?_
 refine DQ.rd rfl rfl (fun _ => rd_move (v := .int _ _) rfl) ?_
 refine DQ.rd rfl rfl (fun _ => rd_idxs (a := s) (j := k) Tryz.under9 rfl rfl rfl (by omega)) ?_
 refine DQ.rd rfl rfl (fun _ => rd_quo8 (m := 16) rfl rfl rfl (by decide) (UInt8.toNat_lt _)) ?_
 refine DQ.rd rfl rfl (fun _ => rd_inc8 rfl rfl (by have := (s[k]'(by omega)).toNat_lt; omega)) ?_
 refine DQ.rd rfl rfl (fun _ => rd_sub_str (a := hexs) (i := ((s[k]'(by omega)).toNat / 16)) (j := ((s[k]'(by omega)).toNat / 16) + 1) Tryz.under9 rfl (.inr ⟨_, rfl⟩) (.inr ⟨_, rfl⟩) (by omega) (by have := (s[k]'(by omega)).toNat_lt; simp only [hexs, List.length_cons, List.length_nil]; omega) (hexs_at ((s[k]'(by omega)).toNat / 16) (by have := (s[k]'(by omega)).toNat_lt; omega))) ?_
 refine DQ.rd rfl rfl (fun _ => rd_cat' (a := (s.take k).flatMap hexByte) (b := [hexCh ((s[k]'(by omega)).toNat / 16)]) rfl rfl (by have e := hexLen (s.take k); rw [List.length_take] at e; simp only [List.length_cons, List.length_nil, List.length_append]; omega) rfl) ?_
 refine DQ.rd rfl rfl (fun _ => rd_move (v := .string _) rfl) ?_
 refine DQ.rd rfl rfl (fun _ => rd_move (v := .int _ _) rfl) ?_
 refine DQ.rd rfl rfl (fun _ => rd_idxs (a := s) (j := k) Tryz.under9 rfl rfl rfl (by omega)) ?_
 refine DQ.rd rfl rfl (fun _ => rd_remn (m := 16) rfl rfl rfl (by decide)) ?_
 refine DQ.rd rfl rfl (fun _ => rd_move (v := .string _) rfl) ?_
 refine DQ.rd rfl rfl (fun _ => rd_move (v := .int _ _) rfl) ?_
 refine DQ.rd rfl rfl (fun _ => rd_idxs (a := s) (j := k) Tryz.under9 rfl rfl rfl (by omega)) ?_
 refine DQ.rd rfl rfl (fun _ => rd_remn (m := 16) rfl rfl rfl (by decide)) ?_
 refine DQ.rd rfl rfl (fun _ => rd_inc8 rfl rfl (by omega)) ?_
 refine DQ.rd rfl rfl (fun _ => rd_sub_str (a := hexs) (i := ((s[k]'(by omega)).toNat % 16)) (j := ((s[k]'(by omega)).toNat % 16) + 1) Tryz.under9 rfl (.inr ⟨_, rfl⟩) (.inr ⟨_, rfl⟩) (by omega) (by have := (s[k]'(by omega)).toNat_lt; simp only [hexs, List.length_cons, List.length_nil]; omega) (hexs_at ((s[k]'(by omega)).toNat % 16) (by have := (s[k]'(by omega)).toNat_lt; omega))) ?_
 refine DQ.done rfl ?_
 refine rdx (rd_cat' (a := (s.take k).flatMap hexByte ++ [hexCh ((s[k]'(by omega)).toNat / 16)]) (b := [hexCh ((s[k]'(by omega)).toNat % 16)]) (c := (s.take (k + 1)).flatMap hexByte) rfl rfl (by have e := hexLen (s.take k); rw [List.length_take] at e; simp only [List.length_cons, List.length_nil, List.length_append]; omega) (by rw [← take_snoc (by omega), List.flatMap_append]; simp [hexByte])) ?_
 refine rdx (rd_assign (v := .string _) rfl) ?_
 refine TO.nil (TQ.block_normal (TQ.then_normal (T.region ?_)))
 refine rdx (rd_move (v := .int _ _) rfl) ?_
 refine rdx (rd_add rfl rfl (w64 (by omega) (by omega))) ?_
 refine rdx (rd_assign (v := .int _ _) rfl) ?_
 refine TO.nil ?_
 refine TQ.againk (k + 1) ?_ ?_ (And.intro (rfl) (And.intro (rfl) (trivial))) (And.intro (rfl) (trivial)) (fun _ _ h => h)
 ·first | omega | (dsimp only; omega)
 ·first | omega | (dsimp only; omega)
theorem c_ref15_Account (k : Bytes) (n e : Int) (hk : k.length ≤ 1000000000) : Cv Tryz.prog 30 #[.string (str k), .int .i64 n, .int .i64 e] [] (.tuple #[.string (str (account k n e).1), .int .i64 (account k n e).2]) := by
 refine Ctr.intro Tryz.func30 rfl Tryz.ntmps30 (Nat.le_of_ble_eq_true rfl) fun S0 w0 => ?_
 refine T.seq (T.region ?_)
 refine rdx (rd_assign (v := .string _) rfl) ?_
 refine rdx (rd_assign (v := .int _ _) rfl) ?_
 refine TO.nil (TQ.then_normal (T.seq (T.seq (T.region ?_))))
 refine rdx (rd_move (v := .string _) rfl) ?_
 refine rdx (rd_lens' Tryz.under9 rfl) ?_
 refine rdx (rd_neq rfl rfl) ?_
 refine rdx (rd_move (v := .bool _) rfl) ?_
 refine TO.decide (s := 11) rfl (fun h1 => ?_) (fun h1 => ?_)
 ·try simp only [nrm] at h1
  refine TO.guard_false (s := 11) (b' := true) rfl rfl nofun ?_
  refine TO.guard_false (s := 11) (b' := true) rfl rfl nofun ?_
  refine TO.guard_false (s := 11) (b' := true) rfl rfl nofun ?_
  refine rdx (rd_pick_true (v := .bool _) rfl rfl) ?_
  refine rdx (rd_move (v := .bool _) rfl) ?_
  refine TO.guard_false (s := 16) (b' := true) rfl rfl nofun ?_
  refine TO.guard_false (s := 16) (b' := true) rfl rfl nofun ?_
  refine TO.guard_false (s := 16) (b' := true) rfl rfl nofun ?_
  refine rdx (rd_pick_true (v := .bool _) rfl rfl) ?_
  refine TO.nil (TQ.then_normal ?_)
  refine T.cond_true rfl ?_
  refine T.seq (T.region ?_)
  refine rdx (rd_assign (v := .string _) rfl) ?_
  refine rdx (rd_assign (v := .int _ _) rfl) ?_
  refine TO.nil (TQ.then_normal (T.ret (TQ.then_ret ?_)))
  refine TQ.value ?_ (res2 Tryz.results30 (Res.tmp (v := .string _) rfl) (Res.tmp (v := .int _ _) rfl)) _ (.inl rfl)
  rw [account, if_neg (by rintro ⟨e1, e2, e3⟩; first | omega | simp_all)]; rfl
 try simp only [nrm] at h1
 refine TO.guard_true (s := 11) rfl rfl ?_
 refine rdx (rd_move (v := .int _ _) rfl) ?_
 refine TO.guard_true (s := 11) rfl rfl ?_
 refine TO.fn Tryz.enters73 (c_dialtoneref15_in _ _ _) rfl Reads0 ?_
 refine TO.guard_true (s := 11) rfl rfl ?_
 refine rdx (rd_not rfl) ?_
 refine rdx (rd_pick_false (v := .bool _) rfl rfl) ?_
 refine rdx (rd_move (v := .bool _) rfl) ?_
 refine TO.decide (s := 16) rfl (fun h2 => ?_) (fun h2 => ?_)
 ·try simp only [nrm] at h2
  refine TO.guard_false (s := 16) (b' := true) rfl rfl nofun ?_
  refine TO.guard_false (s := 16) (b' := true) rfl rfl nofun ?_
  refine TO.guard_false (s := 16) (b' := true) rfl rfl nofun ?_
  refine rdx (rd_pick_true (v := .bool _) rfl rfl) ?_
  refine TO.nil (TQ.then_normal ?_)
  refine T.cond_true rfl ?_
  refine T.seq (T.region ?_)
  refine rdx (rd_assign (v := .string _) rfl) ?_
  refine rdx (rd_assign (v := .int _ _) rfl) ?_
  refine TO.nil (TQ.then_normal (T.ret (TQ.then_ret ?_)))
  refine TQ.value ?_ (res2 Tryz.results30 (Res.tmp (v := .string _) rfl) (Res.tmp (v := .int _ _) rfl)) _ (.inl rfl)
  rw [account, if_neg (by rintro ⟨e1, e2, e3⟩; first | omega | simp_all)]; rfl
 try simp only [nrm] at h2
 refine TO.guard_true (s := 16) rfl rfl ?_
 refine rdx (rd_move (v := .int _ _) rfl) ?_
 refine TO.guard_true (s := 16) rfl rfl ?_
 refine TO.fn Tryz.enters73 (c_dialtoneref15_in _ _ _) rfl Reads0 ?_
 refine TO.guard_true (s := 16) rfl rfl ?_
 refine rdx (rd_not rfl) ?_
 refine rdx (rd_pick_false (v := .bool _) rfl rfl) ?_
 refine TO.nil (TQ.then_normal ?_)
 refine T.cond rfl (fun h3 => ?_) (fun h3 => ?_)
 ·try simp only [nrm] at h3
  refine T.seq (T.region ?_)
  refine rdx (rd_assign (v := .string _) rfl) ?_
  refine rdx (rd_assign (v := .int _ _) rfl) ?_
  refine TO.nil (TQ.then_normal (T.ret (TQ.then_ret ?_)))
  refine TQ.value ?_ (res2 Tryz.results30 (Res.tmp (v := .string _) rfl) (Res.tmp (v := .int _ _) rfl)) _ (.inl rfl)
  rw [account, if_neg (by rintro ⟨e1, e2, e3⟩; first | omega | simp_all)]; rfl
 try simp only [nrm] at h3
 refine T.skip (TQ.then_normal (T.seq (T.region ?_)))
 refine rdx (rd_move (v := .string _) rfl) ?_
 refine rdx (rd_move (v := .int _ _) rfl) ?_
 refine rdx (rd_move (v := .int _ _) rfl) ?_
 refine TO.fn Tryz.enters77 (c_ref15_AccountContent _ _) rfl Reads0 ?_
 refine TO.fn Tryz.enters58 (c_ref15_Seal _ _ (by first | omega | exact wishText_le _ | exact proxyText_le _ | exact puts3_le _ _ _ | (simp only [List.length_append, List.length_cons, List.length_nil, sha_len, leafOf_len, nodeOf_len, sealOf_len, List.length_take, List.length_drop]; omega) | (rw [keyB_len]; omega)) (by first | omega | exact wishText_le _ | exact proxyText_le _ | exact puts3_le _ _ _ | (simp only [List.length_append, List.length_cons, List.length_nil, sha_len, leafOf_len, nodeOf_len, sealOf_len, List.length_take, List.length_drop]; omega) | (rw [keyB_len]; omega))) rfl Reads0 ?_
 refine TO.fn Tryz.enters76 (c_ref15_hex _ (by first | omega | exact wishText_le _ | exact proxyText_le _ | exact puts3_le _ _ _ | (simp only [List.length_append, List.length_cons, List.length_nil, sha_len, leafOf_len, nodeOf_len, sealOf_len, List.length_take, List.length_drop]; omega) | (rw [keyB_len]; omega)) (by first | omega | exact wishText_le _ | exact proxyText_le _ | exact puts3_le _ _ _ | (simp only [List.length_append, List.length_cons, List.length_nil, sha_len, leafOf_len, nodeOf_len, sealOf_len, List.length_take, List.length_drop]; omega) | (rw [keyB_len]; omega))) rfl Reads0 ?_
 refine rdx (rd_assign (v := .string _) rfl) ?_
 refine rdx (rd_assign (v := .int _ _) rfl) ?_
 refine TO.nil (TQ.then_normal (T.ret ?_))
 refine TQ.value ?_ (res2 Tryz.results30 (Res.tmp (v := .string _) rfl) (Res.tmp (v := .int _ _) rfl)) _ (.inl rfl)
 rw [account, if_pos ⟨by omega, by simp_all, by simp_all⟩]
theorem c_ref15_Checks (k : Bytes) (n e : Int) (c : Bytes) (hk : k.length ≤ 1000000000) : Cv Tryz.prog 32 #[.string (str k), .int .i64 n, .int .i64 e, .string (str c)] [] (.bool (checks k n e c)) := by
 refine Ctr.intro Tryz.func32 rfl Tryz.ntmps32 (Nat.le_of_ble_eq_true rfl) fun S0 w0 => ?_
 refine T.seq (T.region ?_)
 refine rdx (rd_assign (v := .bool _) rfl) ?_
 refine TO.nil (TQ.then_normal (T.seq (T.region ?_)))
 refine rdx (rd_move (v := .string _) rfl) ?_
 refine rdx (rd_move (v := .int _ _) rfl) ?_
 refine rdx (rd_move (v := .int _ _) rfl) ?_
 refine TO.fn Tryz.enters30 (c_ref15_Account _ _ _ (by first | omega | exact wishText_le _ | exact proxyText_le _ | exact puts3_le _ _ _ | (simp only [List.length_append, List.length_cons, List.length_nil, sha_len, leafOf_len, nodeOf_len, sealOf_len, List.length_take, List.length_drop]; omega) | (rw [keyB_len]; omega))) rfl Reads0 ?_
 refine rdx (rd_move (v := .tuple _) rfl) ?_
 refine rdx (rd_extract (v := .string _) (vs := _) rfl rfl) ?_
 refine rdx (rd_extract (v := .int _ _) (vs := _) rfl rfl) ?_
 refine rdx (rd_assign (v := .string _) rfl) ?_
 refine rdx (rd_assign (v := .int _ _) rfl) ?_
 refine TO.nil (TQ.then_normal (T.seq (T.region ?_)))
 refine rdx (rd_move (v := .int _ _) rfl) ?_
 refine rdx (rd_eql rfl rfl) ?_
 refine rdx (rd_move (v := .bool _) rfl) ?_
 refine TO.decide_ft (s := 20) rfl (fun h1 => ?_) (fun h1 => ?_)
 ·refine TO.guard_false (s := 20) (b' := false) rfl rfl nofun ?_
  refine TO.guard_false (s := 20) (b' := false) rfl rfl nofun ?_
  refine TO.guard_false (s := 20) (b' := false) rfl rfl nofun ?_
  refine rdx (rd_pick_false (v := .bool _) rfl rfl) ?_
  refine rdx (rd_assign (v := .bool _) rfl) ?_
  refine TO.nil (TQ.then_normal (T.ret ?_))
  refine TQ.value ?_ (res1 Tryz.results32 (Res.tmp (v := .bool _) rfl)) _ (.inl rfl)
  show Value.bool _ = Value.bool _; simp [checks, h1]
 refine TO.guard_true (s := 20) rfl rfl ?_
 refine rdx (rd_move (v := .string _) rfl) ?_
 refine TO.guard_true (s := 20) rfl rfl ?_
 refine rdx (rd_move (v := .string _) rfl) ?_
 refine TO.guard_true (s := 20) rfl rfl ?_
 refine rdx (rd_eqs' rfl rfl) ?_
 refine rdx (rd_pick_true (v := .bool _) rfl rfl) ?_
 refine rdx (rd_assign (v := .bool _) rfl) ?_
 refine TO.nil (TQ.then_normal (T.ret ?_))
 refine TQ.value ?_ (res1 Tryz.results32 (Res.tmp (v := .bool _) rfl)) _ (.inl rfl)
 show Value.bool _ = Value.bool _; simp [checks, h1]
end Go.Proofs
end
section
set_option linter.unusedVariables false
set_option linter.unusedSimpArgs false
set_option maxRecDepth 100000
set_option maxHeartbeats 800000
namespace Go.Proofs
open Go.TL
attribute [local irreducible] Go.TL.T Go.TL.TO Go.TL.TQ
theorem c_ref15_Key (h : Int) : Cv Tryz.prog 19 #[.int .i64 h] [] (.string (str (keyB h))) := by
 refine Ctr.intro Tryz.func19 rfl Tryz.ntmps19 (Nat.le_of_ble_eq_true rfl) fun S0 w0 => ?_
 refine T.seq (T.region ?_)
 refine rdx (rd_assign (v := .string _) rfl) ?_
 refine TO.nil (TQ.then_normal (T.seq (T.region ?_)))
 refine TO.make (k := 32) Tryz.trow5 Tryz.zero5 Tryz.under62 rfl rfl rfl (by decide) (by decide) (fun b1 => ?_)
 refine rdx (rd_assign (v := .slice _ _ _) rfl) ?_
 refine TO.nil (TQ.then_normal (T.seq (T.seq (T.region ?_))))
 refine rdx (rd_assign (v := .int _ _) rfl) ?_
 refine TO.nil (TQ.then_normal (T.block ?_))
 refine T.loop1 [0, 3] (fun (k : Nat) => [(4, .int .i64 (k : Nat))]) (fun (k : Nat) => [own b1 (List.replicate k (Value.int .u8 ((UInt8.ofNat (h % 256).toNat).toNat : Int)) ++ List.replicate (32 - k) (Value.int .u8 0)).toArray 5]) (fun (k : Nat) => k ≤ 32) (fun (k : Nat) => 32 - k) (0) (Nat.zero_le _) (And.intro (rfl) (trivial)) (fun _ _ h => h) fun k g0 hx0 => ?_
 refine T.seq (T.seq (T.region ?_))
 refine rdx (rd_move (v := .int _ _) rfl) ?_
 refine rdx (rd_move (v := .slice _ _ _) rfl) ?_
 refine rdx (rd_lensl Tryz.under62 rfl) ?_
 refine rdx (rd_lss rfl rfl) ?_
 refine TO.nil (TQ.then_normal ?_)
 refine T.cond_ft rfl (fun h2 => ?_) (fun h2 => ?_)
 ·try simp only [nrm] at h2
  refine T.exit (TQ.then_exit (TQ.then_exit (TQ.block_out (TQ.then_normal (T.seq (T.region ?_))))))
  refine rdx (rd_move (v := .slice _ _ _) rfl) ?_
  refine TO.torow0 1 32 (by simp; omega) (by decide) ?_
  refine TO.row_eq (cs' := bytesC (keyB h)) rfl (by (obtain rfl : k = 32 := by omega); rfl) ?_
  refine rdx (rd_row_str Tryz.under62 Tryz.under5 Tryz.under9 rfl (Has.own 0 rfl)) ?_
  refine rdx (rd_assign (v := .string _) rfl) ?_
  refine TO.nil (TQ.then_normal (T.ret ?_))
  refine TQ.value ?_ (res1 Tryz.results19 (Res.tmp (v := .string _) rfl)) _ (.inl rfl)
  rfl
 try simp only [nrm] at h2
 refine T.skip (TQ.then_normal (T.seq (T.block (T.region ?_))))
 refine rdx (rd_move (v := .slice _ _ _) rfl) ?_
 refine rdx (rd_move (v := .int _ _) rfl) ?_
 refine rdx (rd_move (v := .int _ _) rfl) ?_
 refine rdx (rd_convert Tryz.isome3 Tryz.under5 rfl (show IntKind.u8.wrap h = ((UInt8.ofNat (h % 256).toNat).toNat : Int) from by rw [wrap_u8, UInt8.toNat_ofNat']; omega)) ?_
 refine rdx (rd_indexAddr (k := k) Tryz.under62 Tryz.size5 rfl rfl rfl (by omega)) ?_
 refine TO.store0 (cells' := (List.replicate (k + 1) (Value.int .u8 ((UInt8.ofNat (h % 256).toNat).toNat : Int)) ++ List.replicate (32 - (k + 1)) (Value.int .u8 0)).toArray) (v := .int .u8 _) Tryz.size5 rfl rfl rfl (by rw [Nat.zero_add, Nat.mul_one]; exact over_rep (by omega)) (by simp; omega) rfl ?_
 refine TO.nil (TQ.block_normal (TQ.then_normal (T.region ?_)))
 refine rdx (rd_move (v := .int _ _) rfl) ?_
 refine rdx (rd_add rfl rfl (w64 (by omega) (by omega))) ?_
 refine rdx (rd_assign (v := .int _ _) rfl) ?_
 refine TO.nil ?_
 refine TQ.againk (k + 1) ?_ ?_ (And.intro (rfl) (trivial)) (And.intro (rfl) (And.intro (rfl) (trivial))) (fun _ _ h => h)
 ·first | omega | (dsimp only; omega)
 ·first | omega | (dsimp only; omega)
theorem c_ref15_Keys  : Ctr Tryz.prog 11 #[] [] [] (γ := Option Addr × Nat) (fun x => True) (fun x => .slice x.1 10 x.2) (fun x => [row 9 1 x.1 10 x.2 ((keysN 10).flatMap eStr)]) := by
 refine Ctr.intro Tryz.func11 rfl Tryz.ntmps11 (Nat.le_of_ble_eq_true rfl) fun S0 w0 => ?_
 refine T.seq (T.region ?_)
 refine rdx (rd_assign (v := .slice none 0 0) rfl) ?_
 refine TO.newrow 9 1 ?_
 refine TO.nil (TQ.then_normal (T.seq (T.region ?_)))
 refine rdx (rd_assign (v := .slice none 0 0) rfl) ?_
 refine TO.newrow 9 1 ?_
 refine TO.nil (TQ.then_normal (T.seq (T.seq (T.region ?_))))
 refine rdx (rd_assign (v := .int _ _) rfl) ?_
 refine TO.nil (TQ.then_normal (T.block ?_))
 refine T.loop3 [] (fun (A1 : Option Addr) (cap1 : Nat) (k : Nat) => [(1, .slice A1 k cap1), (2, .int .i64 (k : Nat))]) (fun (A1 : Option Addr) (cap1 : Nat) (k : Nat) => [row 9 1 A1 k cap1 ((keysN k).flatMap eStr)]) (fun (A1 : Option Addr) (cap1 : Nat) (k : Nat) => k ≤ 10) (fun (A1 : Option Addr) (cap1 : Nat) (k : Nat) => 10 - k) (none) (0) (0) (Nat.zero_le _) (And.intro (rfl) (And.intro (rfl) (trivial))) (fun _ _ h => h) fun A1 cap1 k g0 hx0 => ?_
 refine T.seq (T.seq (T.region ?_))
 refine rdx (rd_move (v := .int _ _) rfl) ?_
 refine rdx (rd_lss rfl rfl) ?_
 refine TO.nil (TQ.then_normal ?_)
 refine T.cond_ft rfl (fun h3 => ?_) (fun h3 => ?_)
 ·try simp only [nrm] at h3
  refine T.exit (TQ.then_exit (TQ.then_exit (TQ.block_out (TQ.then_normal (T.seq (T.region ?_))))))
  refine rdx (rd_move (v := .slice _ _ _) rfl) ?_
  refine rdx (rd_assign (v := .slice _ _ _) rfl) ?_
  refine TO.nil (TQ.then_normal (T.ret ?_))
  refine TQ.done ((A1, cap1)) (trivial) ?_ (fun _ _ => seps_row 0 rfl (by omega) (by rw [show k = 10 by omega])) (res1 Tryz.results11 (Res.tmp (v := .slice _ _ _) rfl)) _ (.inl rfl)
  rw [show k = 10 by omega]
 try simp only [nrm] at h3
 refine T.skip (TQ.then_normal (T.seq (T.block (T.region ?_))))
 refine rdx (rd_move (v := .slice _ _ _) rfl) ?_
 refine rdx (rd_move (v := .int _ _) rfl) ?_
 refine TO.fn Tryz.enters19 (c_ref15_Key _) rfl Reads0 ?_
 refine TO.buildS (cs := [.string _]) Tryz.under32 Tryz.size9 Tryz.zero9 (Nat.le_of_ble_eq_true rfl) rfl (fun b4 => ?_)
 refine TO.front1 ?_
 refine TO.app Tryz.trow9 Tryz.under32 (.inl ⟨_, Tryz.under32⟩) rfl rfl (Src.own1 1 rfl rfl) rfl rfl (by omega) (fun A5 c6 hc7 => ?_)
 refine TO.row_eq (cs' := (keysN (k + 1)).flatMap eStr) rfl (by rw [keysN_succ, List.flatMap_append]; rfl) ?_
 refine rdx (rd_assign (v := .slice _ _ _) rfl) ?_
 refine TO.nil (TQ.block_normal (TQ.then_normal (T.region ?_)))
 refine rdx (rd_move (v := .int _ _) rfl) ?_
 refine rdx (rd_add rfl rfl (w64 (by omega) (by omega))) ?_
 refine rdx (rd_assign (v := .int _ _) rfl) ?_
 refine TO.nil ?_
 refine TQ.againk (A5, c6, k + 1) ?_ ?_ (And.intro (rfl) (And.intro (rfl) (trivial))) (trivial) (fun _ _ h => h.sel (js := [0, 2]) (by decide))
 ·first | omega | (dsimp only; omega)
 ·first | omega | (dsimp only; omega)
end Go.Proofs
end
section
set_option linter.unusedVariables false
set_option linter.unusedSimpArgs false
set_option maxRecDepth 100000
set_option maxHeartbeats 800000
namespace Go.Proofs
open Go.TL
attribute [local irreducible] Go.TL.T Go.TL.TO Go.TL.TQ
end Go.Proofs
end
section
set_option linter.unusedVariables false
set_option linter.unusedSimpArgs false
set_option maxRecDepth 100000
set_option maxHeartbeats 800000
namespace Go.Proofs
open Go.TL
attribute [local irreducible] Go.TL.T Go.TL.TO Go.TL.TQ
theorem c_ref15_Encode (w : Wish) (A : Option Addr) (cap n : Nat) (l : List Proxy) (hn : n = l.length) (hl : l.length ≤ 4611686018427387904) : Cv Tryz.prog 25 #[wishV w, .slice A n cap] [slc proxyL 7 A l] (.tuple #[.string (str (encode w l).1), .int .i64 (encode w l).2]) := by
 subst hn
 refine Ctr.intro Tryz.func25 rfl Tryz.ntmps25 (Nat.le_of_ble_eq_true rfl) fun S0 w0 => ?_
 refine T.seq (T.region ?_)
 refine TO.box (v := .agg #[.int _ _, .int _ _, .int _ _, .int _ _, .int _ _, .int _ _, .int _ _, .int _ _, .string _]) rfl (fun b1 => ?_)
 refine rdx (rd_assign (v := .string _) rfl) ?_
 refine rdx (rd_assign (v := .int _ _) rfl) ?_
 refine TO.nil (TQ.then_normal (T.seq (T.seq (T.region ?_))))
 refine rdx (rd_load_agg (cs := #[.int _ _, .int _ _, .int _ _, .int _ _, .int _ _, .int _ _, .int _ _, .int _ _, .string _]) Tryz.agg30 rfl (Has.own 0 rfl) rfl rfl) ?_
 refine rdx (rd_move (v := .slice _ _ _) rfl) ?_
 refine TO.fn Tryz.enters18 (c_ref15_Formed _ _ _ _ _ (by first | rfl | simp | omega)) rfl (ReadsC (Has.arg 0 rfl) Reads0) ?_
 refine rdx (rd_not rfl) ?_
 refine rdx (rd_move (v := .bool _) rfl) ?_
 refine TO.decide (s := 12) rfl (fun h2 => ?_) (fun h2 => ?_)
 ·try simp only [nrm] at h2
  refine TO.guard_false (s := 12) (b' := true) rfl rfl nofun ?_
  refine TO.guard_false (s := 12) (b' := true) rfl rfl nofun ?_
  refine TO.guard_false (s := 12) (b' := true) rfl rfl nofun ?_
  refine TO.guard_false (s := 12) (b' := true) rfl rfl nofun ?_
  refine rdx (rd_pick_true (v := .bool _) rfl rfl) ?_
  refine TO.nil (TQ.then_normal ?_)
  refine T.cond_true rfl ?_
  refine T.seq (T.region ?_)
  refine rdx (rd_assign (v := .string _) rfl) ?_
  refine rdx (rd_assign (v := .int _ _) rfl) ?_
  refine TO.nil (TQ.then_normal (T.ret (TQ.then_ret ?_)))
  refine TQ.value ?_ (res2 Tryz.results25 (Res.tmp (v := .string _) rfl) (Res.tmp (v := .int _ _) rfl)) _ (.inl rfl)
  rw [encode, if_neg (by rintro ⟨e1, e2, e3⟩; first | omega | simp_all)]; rfl
 try simp only [nrm] at h2
 refine TO.guard_true (s := 12) rfl rfl ?_
 refine rdx (rd_fieldAddr Tryz.field30_6 rfl) ?_
 refine TO.guard_true (s := 12) rfl rfl ?_
 refine rdx (rd_load (v := .string _) Tryz.one9 rfl (Has.own 0 rfl) rfl) ?_
 refine TO.guard_true (s := 12) rfl rfl ?_
 refine rdx (rd_lens' Tryz.under9 rfl) ?_
 refine TO.guard_true (s := 12) rfl rfl ?_
 refine rdx (rd_neq rfl rfl) ?_
 refine rdx (rd_pick_false (v := .bool _) rfl rfl) ?_
 refine TO.nil (TQ.then_normal ?_)
 refine T.cond rfl (fun h3 => ?_) (fun h3 => ?_)
 ·try simp only [nrm] at h3
  refine T.seq (T.region ?_)
  refine rdx (rd_assign (v := .string _) rfl) ?_
  refine rdx (rd_assign (v := .int _ _) rfl) ?_
  refine TO.nil (TQ.then_normal (T.ret (TQ.then_ret ?_)))
  refine TQ.value ?_ (res2 Tryz.results25 (Res.tmp (v := .string _) rfl) (Res.tmp (v := .int _ _) rfl)) _ (.inl rfl)
  rw [encode, if_neg (by rintro ⟨e1, e2, e3⟩; first | omega | simp_all)]; rfl
 try simp only [nrm] at h3
 refine T.skip (TQ.then_normal (T.seq (T.region ?_)))
 refine rdx (rd_move (v := .slice _ _ _) rfl) ?_
 refine rdx (rd_lensl Tryz.under31 rfl) ?_
 refine TO.buildS (cs := [.int _ _]) Tryz.under110 Tryz.size3 Tryz.zero3 (Nat.le_of_ble_eq_true rfl) rfl (fun b4 => ?_)
 refine TO.fn Tryz.enters67 (c_ref15_puts _ _ _ [(l.length : Int)] (by first | rfl | simp | omega) (by simp)) rfl (ReadsC (own_slc (e := eInt) [(l.length : Int)] rfl (fun _ => rfl) (Has.own 0 rfl) (by simp)) Reads0) ?_
 have hfo := formedOk_parts (w := w) (l := l) (by simp_all)
 have hwt := wishText_len w
 refine rdx (rd_assign (v := .string _) rfl) ?_
 refine TO.nil (TQ.then_normal (T.seq (T.seq (T.region ?_))))
 refine rdx (rd_assign (v := .int _ _) rfl) ?_
 refine TO.nil (TQ.then_normal (T.block ?_))
 refine T.loop1 [1, 2] (fun (k : Nat) => [(7, .int .i64 (k : Nat)), (6, .string (str (encK l k)))]) (fun (k : Nat) => []) (fun (k : Nat) => k ≤ l.length ∧ (l.take k).all (fun p => p.sig.length == 32) = true) (fun (k : Nat) => l.length - k) (0) (⟨Nat.zero_le _, rfl⟩) (And.intro (rfl) (And.intro (congrArg (fun z : Bytes => Value.string (str z)) (show puts [(l.length : Int)] = encK l 0 by simp [encK])) (trivial))) (fun _ _ h => h) fun k g0 hx0 => ?_
 obtain ⟨hk, hk0⟩ := hx0
 have hel := encK_len hfo.2.1 hk0
 refine T.seq (T.seq (T.region ?_))
 refine rdx (rd_move (v := .int _ _) rfl) ?_
 refine rdx (rd_move (v := .slice _ _ _) rfl) ?_
 refine rdx (rd_lensl Tryz.under31 rfl) ?_
 refine rdx (rd_lss rfl rfl) ?_
 refine TO.nil (TQ.then_normal ?_)
 refine T.cond_ft rfl (fun h5 => ?_) (fun h5 => ?_)
 ·try simp only [nrm] at h5
  refine T.exit (TQ.then_exit (TQ.then_exit (TQ.block_out (TQ.then_normal (T.seq ?_)))))
  refine T.drawq Tryz.mixes 6 [(48, 0), (49, 1), (50, 2), (51, 3), (52, 4), (53, 5)] [0, 0, 2, 7, 0, 16, 63, 127, 255] (by kernel_rfl) ?_
  refine DQ.rd rfl rfl (fun _ => rd_move (v := .string _) rfl) ?_
  refine DQ.rd rfl rfl (fun _ => rd_load_agg (cs := #[.int _ _, .int _ _, .int _ _, .int _ _, .int _ _, .int _ _, .int _ _, .int _ _, .string _]) Tryz.agg30 rfl (Has.own 1 rfl) rfl rfl) ?_
  refine DQ.fn rfl Tryz.enters35 (c_ref15_WishContent _) (fun _ => rfl) Reads0 ?_
  refine DQ.rd rfl rfl (fun _ => rd_cat' rfl rfl (by omega) rfl) ?_
  refine DQ.rd rfl rfl (fun _ => rd_fieldAddr Tryz.field30_6 rfl) ?_
  refine DQ.rd rfl rfl (fun _ => rd_load (v := .string _) Tryz.one9 rfl (Has.own 1 rfl) rfl) ?_
  refine DQ.done rfl ?_
  refine rdx (rd_cat' (c := encText w l) rfl rfl (by first | omega | (simp only [List.length_append]; omega)) (encK_end (by omega))) ?_
  refine rdx (rd_assign (v := .string _) rfl) ?_
  refine rdx (rd_assign (v := .int _ _) rfl) ?_
  refine TO.nil (TQ.then_normal (T.ret ?_))
  refine TQ.value ?_ (res2 Tryz.results25 (Res.tmp (v := .string _) rfl) (Res.tmp (v := .int _ _) rfl)) _ (.inl rfl)
  rw [encode, if_pos ⟨by simp_all, by omega, all_done hk0 (by omega)⟩]
 try simp only [nrm] at h5
 refine T.skip (TQ.then_normal (T.seq (T.block (T.seq (T.seq (T.region ?_))))))
 refine rdx (rd_move (v := .slice _ _ _) rfl) ?_
 refine rdx (rd_move (v := .int _ _) rfl) ?_
 refine rdx (rd_ix (k := k) Tryz.under31 Tryz.size40 rfl rfl (Has.arg 0 rfl) rfl (by omega) (by omega)) ?_
 have hpt := proxyText_len (l[k]'(by omega))
 refine rdx (rd_ixf Tryz.field40_4 rfl (Has.arg 0 rfl) (by omega)) ?_
 refine rdx (rd_el (v := .string _) k 6 Tryz.one9 rfl (Has.arg 0 rfl) rfl (by omega) (Nat.le_of_ble_eq_true rfl) rfl) ?_
 refine rdx (rd_lens' Tryz.under9 rfl) ?_
 refine rdx (rd_neq rfl rfl) ?_
 refine TO.nil (TQ.then_normal ?_)
 refine T.cond rfl (fun h6 => ?_) (fun h6 => ?_)
 ·try simp only [nrm] at h6
  refine T.seq (T.region ?_)
  refine rdx (rd_assign (v := .string _) rfl) ?_
  refine rdx (rd_assign (v := .int _ _) rfl) ?_
  refine TO.nil (TQ.then_normal (T.ret (TQ.then_ret (TQ.block_ret (TQ.then_ret (TQ.then_ret (TQ.block_ret (TQ.then_ret ?_))))))))
  refine TQ.value ?_ (res2 Tryz.results25 (Res.tmp (v := .string _) rfl) (Res.tmp (v := .int _ _) rfl)) _ (.inl rfl)
  rw [encode, if_neg (by rintro ⟨e1, e2, e3⟩; have := all_at e3 (k := k) (by omega); omega)]; rfl
 try simp only [nrm] at h6
 refine T.skip (TQ.then_normal ?_)
 refine T.drawq Tryz.mixes 12 [(35, 0), (36, 1), (37, 2), (38, 3), (39, 4), (40, 5), (41, 6), (42, 7), (43, 8), (44, 9), (45, 10), (46, 11)] [0, 0, 0, 6, 14, 30, 63, 0, 0, 384, 896, 1920, 4095, 8191] (by kernel_rfl) ?_
 refine DQ.rd rfl rfl (fun _ => rd_move (v := .string _) rfl) ?_
 refine DQ.rd rfl rfl (fun _ => rd_move (v := .slice _ _ _) rfl) ?_
 refine DQ.rd rfl rfl (fun _ => rd_move (v := .int _ _) rfl) ?_
 refine DQ.rd rfl rfl (fun _ => rd_ix (k := k) Tryz.under31 Tryz.size40 rfl rfl (Has.arg 0 rfl) rfl (by omega) (by omega)) ?_
 refine DQ.rd rfl rfl (fun _ => rd_ela (cs := [.int _ _, .int _ _, .int _ _, .int _ _, .int _ _, .int _ _, .string _]) k 0 Tryz.agg40 rfl (Has.arg 0 rfl) rfl (by omega) (Nat.le_of_ble_eq_true rfl) rfl rfl rfl) ?_
 refine DQ.fn rfl Tryz.enters36 (c_ref15_ProxyContent _) (fun _ => rfl) Reads0 ?_
 refine DQ.rd rfl rfl (fun _ => rd_cat' rfl rfl (by omega) rfl) ?_
 refine DQ.rd rfl rfl (fun _ => rd_move (v := .slice _ _ _) rfl) ?_
 refine DQ.rd rfl rfl (fun _ => rd_move (v := .int _ _) rfl) ?_
 refine DQ.rd rfl rfl (fun _ => rd_ix (k := k) Tryz.under31 Tryz.size40 rfl rfl (Has.arg 0 rfl) rfl (by omega) (by omega)) ?_
 refine DQ.rd rfl rfl (fun _ => rd_ixf Tryz.field40_4 rfl (Has.arg 0 rfl) (by omega)) ?_
 refine DQ.rd rfl rfl (fun _ => rd_el (v := .string _) k 6 Tryz.one9 rfl (Has.arg 0 rfl) rfl (by omega) (Nat.le_of_ble_eq_true rfl) rfl) ?_
 refine DQ.done rfl ?_
 refine rdx (rd_cat' (c := encK l (k + 1)) rfl rfl (by first | omega | (simp only [List.length_append]; omega)) (encK_succ (by omega)).symm) ?_
 refine rdx (rd_assign (v := .string _) rfl) ?_
 refine TO.nil (TQ.block_normal (TQ.then_normal (T.region ?_)))
 refine rdx (rd_move (v := .int _ _) rfl) ?_
 refine rdx (rd_add rfl rfl (w64 (by omega) (by omega))) ?_
 refine rdx (rd_assign (v := .int _ _) rfl) ?_
 refine TO.nil ?_
 refine TQ.againk (k + 1) ?_ ?_ (And.intro (rfl) (And.intro (rfl) (trivial))) (And.intro (rfl) (And.intro (rfl) (trivial))) (fun _ _ h => h)
 ·exact ⟨by first | omega | (dsimp only; omega), all_next (by omega) hk0 (by simp; omega)⟩
 ·first | omega | (dsimp only; omega)
theorem c_ref15_ints (s : Bytes) (a many : Nat) (hs : s.length ≤ 1000000000000) (hm : many ≤ 100) : Ctr Tryz.prog 72 #[.string (str s), .int .i64 (a : Nat), .int .i64 (many : Nat)] [] [] (γ := Option Addr × Nat) (fun x => True) (fun x => .tuple #[.slice x.1 (intsL s many a).length x.2, .int .i64 (intsN s many a), .bool (rdNs s many a).isSome]) (fun x => [row 3 1 x.1 (intsL s many a).length x.2 ((intsL s many a).flatMap eInt)]) := by
 refine Ctr.intro Tryz.func72 rfl Tryz.ntmps72 (Nat.le_of_ble_eq_true rfl) fun S0 w0 => ?_
 refine T.seq (T.region ?_)
 refine rdx (rd_assign (v := .slice _ _ _) rfl) ?_
 refine rdx (rd_assign (v := .int _ _) rfl) ?_
 refine rdx (rd_assign (v := .bool _) rfl) ?_
 refine TO.nil (TQ.then_normal (T.seq (T.region ?_)))
 refine rdx (rd_assign (v := .slice none 0 0) rfl) ?_
 refine TO.newrow 3 1 ?_
 refine TO.nil (TQ.then_normal (T.seq (T.seq (T.region ?_))))
 refine rdx (rd_assign (v := .int _ _) rfl) ?_
 refine TO.nil (TQ.then_normal (T.block ?_))
 refine T.loop5 [0, 2] (fun (A : Option Addr) (cap : Nat) (k : Nat) (l : List Int) (c : Nat) => [(1, .int .i64 (c : Nat)), (9, .slice A k cap), (10, .int .i64 (k : Nat))]) (fun (A : Option Addr) (cap : Nat) (k : Nat) (l : List Int) (c : Nat) => [row 3 1 A k cap (l.flatMap eInt)]) (fun (A : Option Addr) (cap : Nat) (k : Nat) (l : List Int) (c : Nat) => rdNs s k a = some (l, c) ∧ l.length = k ∧ k ≤ many) (fun (A : Option Addr) (cap : Nat) (k : Nat) (l : List Int) (c : Nat) => many - k) (none) (0) (0) ([]) (a) (⟨rfl, rfl, Nat.zero_le _⟩) (And.intro (rfl) (And.intro (rfl) (And.intro (rfl) (trivial)))) (fun _ _ h => h) fun A cap k l c g0 hx0 => ?_
 obtain ⟨hr, hlk, hk⟩ := hx0
 refine T.seq (T.seq (T.region ?_))
 refine rdx (rd_move (v := .int _ _) rfl) ?_
 refine rdx (rd_move (v := .int _ _) rfl) ?_
 refine rdx (rd_lss rfl rfl) ?_
 refine TO.nil (TQ.then_normal ?_)
 refine T.cond_ft rfl (fun h2 => ?_) (fun h2 => ?_)
 ·try simp only [nrm] at h2
  refine T.exit (TQ.then_exit (TQ.then_exit (TQ.block_out (TQ.then_normal (T.seq (T.region ?_))))))
  refine rdx (rd_move (v := .slice _ _ _) rfl) ?_
  refine rdx (rd_move (v := .int _ _) rfl) ?_
  refine rdx (rd_assign (v := .slice _ _ _) rfl) ?_
  refine rdx (rd_assign (v := .int _ _) rfl) ?_
  refine rdx (rd_assign (v := .bool _) rfl) ?_
  refine TO.nil (TQ.then_normal (T.ret ?_))
  obtain rfl : k = many := by omega
  refine TQ.done ((A, cap)) (trivial) ?_ (fun _ _ h => by rw [(ints_some hr).1]; exact seps_row 0 rfl hlk.symm rfl h) (res3 Tryz.results72 (Res.tmp (v := .slice _ _ _) rfl) (Res.tmp (v := .int _ _) rfl) (Res.tmp (v := .bool _) rfl)) _ (.inl rfl)
  rw [(ints_some hr).1, (ints_some hr).2, hr, hlk]; rfl
 try simp only [nrm] at h2
 refine T.skip (TQ.then_normal (T.seq (T.block (T.seq (T.region ?_)))))
 refine rdx (rd_move (v := .string _) rfl) ?_
 refine rdx (rd_move (v := .int _ _) rfl) ?_
 refine TO.fn Tryz.enters96 (c_ref01_Int _ _ (by omega)) rfl Reads0 ?_
 refine rdx (rd_move (v := .tuple _) rfl) ?_
 refine rdx (rd_extract (v := .int _ _) (vs := _) rfl rfl) ?_
 refine rdx (rd_extract (v := .int _ _) (vs := _) rfl rfl) ?_
 refine rdx (rd_extract (v := .int _ _) (vs := _) rfl rfl) ?_
 refine rdx (rd_assign (v := .int _ _) rfl) ?_
 refine rdx (rd_assign (v := .int _ _) rfl) ?_
 refine rdx (rd_assign (v := .int _ _) rfl) ?_
 refine TO.nil (TQ.then_normal (T.seq (T.seq (T.region ?_))))
 refine rdx (rd_move (v := .int _ _) rfl) ?_
 refine rdx (rd_neq rfl rfl) ?_
 refine TO.nil (TQ.then_normal ?_)
 refine T.cond rfl (fun h3 => ?_) (fun h3 => ?_)
 ·try simp only [nrm] at h3
  refine T.seq (T.region ?_)
  refine rdx (rd_assign (v := .slice _ _ _) rfl) ?_
  refine rdx (rd_assign (v := .int _ _) rfl) ?_
  refine rdx (rd_assign (v := .bool _) rfl) ?_
  refine TO.nil (TQ.then_normal (T.ret (TQ.then_ret (TQ.block_ret (TQ.then_ret (TQ.then_ret (TQ.block_ret (TQ.then_ret ?_))))))))
  have hnn : rdNs s many a = none := rdNs_none hr (rdN_not (by simpa using h3)) (by omega)
  refine TQ.done ((none, 0)) (trivial) ?_ (fun _ _ _ => by rw [(ints_none hnn).1]; exact one_seps nil_row) (res3 Tryz.results72 (Res.tmp (v := .slice _ _ _) rfl) (Res.tmp (v := .int _ _) rfl) (Res.tmp (v := .bool _) rfl)) _ (.inl rfl)
  rw [(ints_none hnn).1, (ints_none hnn).2, hnn]; rfl
 try simp only [nrm] at h3
 refine T.skip (TQ.then_normal (T.seq (T.region ?_)))
 refine rdx (rd_move (v := .slice _ _ _) rfl) ?_
 have hun := unInt_next (s := s) (a := c) (by simpa using h3)
 have hst := rdNs_step hr (by simpa using h3)
 refine rdx (rd_move (v := .int _ _) rfl) ?_
 refine TO.buildS (cs := [.int _ _]) Tryz.under110 Tryz.size3 Tryz.zero3 (Nat.le_of_ble_eq_true rfl) rfl (fun b4 => ?_)
 refine TO.front1 ?_
 refine TO.app Tryz.trow3 Tryz.under110 (.inl ⟨_, Tryz.under110⟩) rfl rfl (Src.own1 1 rfl rfl) rfl rfl (by omega) (fun A5 c6 hc7 => ?_)
 refine TO.row_eq (k' := k + 1) (cs' := (l ++ [(unInt s c).1]).flatMap eInt) rfl (by rw [List.flatMap_append]; rfl) ?_
 refine rdx (rd_assign (v := .slice _ _ _) rfl) ?_
 refine TO.nil (TQ.then_normal (T.region ?_))
 refine rdx (rd_move (v := .int _ _) rfl) ?_
 refine rdx (rd_assign (v := .int _ _) rfl) ?_
 refine TO.nil (TQ.block_normal (TQ.then_normal (T.region ?_)))
 refine rdx (rd_move (v := .int _ _) rfl) ?_
 refine rdx (rd_add rfl rfl (w64 (by omega) (by omega))) ?_
 refine rdx (rd_assign (v := .int _ _) rfl) ?_
 refine TO.nil ?_
 refine TQ.againk (A5, c6, k + 1, l ++ [(unInt s c).1], (unInt s c).2.1.toNat) ?_ ?_ (And.intro (congrArg (Value.int .i64) (Int.toNat_of_nonneg hun.1).symm) (And.intro (rfl) (And.intro (rfl) (trivial)))) (And.intro (rfl) (And.intro (rfl) (trivial))) (fun _ _ h => h.sel (js := [0]) (by decide))
 ·exact ⟨hst, by dsimp only; rw [List.length_append, hlk]; rfl, by dsimp only; omega⟩
 ·first | omega | (dsimp only; omega)
end Go.Proofs
end
section
set_option linter.unusedVariables false
set_option linter.unusedSimpArgs false
set_option maxRecDepth 100000
set_option maxHeartbeats 800000
namespace Go.Proofs
open Go.TL
attribute [local irreducible] Go.TL.T Go.TL.TO Go.TL.TQ
theorem c_ref15_Decode (s : Bytes) (hs : s.length ≤ 1000000000000) : Ctr Tryz.prog 27 #[.string (str s)] [] [] (γ := Option Addr × Nat) (fun x => True) (fun x => .tuple #[wishV (decodeOf s).1, .slice x.1 (decodeOf s).2.1.length x.2, .int .i64 (decodeOf s).2.2]) (fun x => [row 40 7 x.1 (decodeOf s).2.1.length x.2 ((decodeOf s).2.1.flatMap proxyL)]) := by
 refine Ctr.intro Tryz.func27 rfl Tryz.ntmps27 (Nat.le_of_ble_eq_true rfl) fun S0 w0 => ?_
 refine T.seq (T.region ?_)
 refine TO.alloc Tryz.zero30 (fun b1 => ?_)
 refine rdx (rd_assign (v := .slice _ _ _) rfl) ?_
 refine rdx (rd_assign (v := .int _ _) rfl) ?_
 refine TO.nil (TQ.then_normal (T.seq (T.region ?_)))
 refine rdx (rd_move (v := .string _) rfl) ?_
 refine TO.fnx Tryz.enters72 (c_ref15_ints (s) (0) (1) (by first | omega | assumption) (by omega)) rfl Reads0 (fun ⟨A2, cap3⟩ hx4 => ?_)
 refine rdx (rd_move (v := .tuple _) rfl) ?_
 refine rdx (rd_extract (v := .slice _ _ _) (vs := _) rfl rfl) ?_
 refine rdx (rd_extract (v := .int _ _) (vs := _) rfl rfl) ?_
 refine rdx (rd_extract (v := .bool _) (vs := _) rfl rfl) ?_
 refine rdx (rd_assign (v := .slice _ _ _) rfl) ?_
 refine rdx (rd_assign (v := .int _ _) rfl) ?_
 refine rdx (rd_assign (v := .bool _) rfl) ?_
 refine TO.nil (TQ.then_normal (T.seq (T.seq (T.region ?_))))
 refine rdx (rd_move (v := .bool _) rfl) ?_
 refine rdx (rd_not rfl) ?_
 refine rdx (rd_move (v := .bool _) rfl) ?_
 refine TO.decide (s := 27) rfl (fun h6 => ?_) (fun h6 => ?_)
 ·try simp only [nrm] at h6
  refine TO.guard_false (s := 27) (b' := true) rfl rfl nofun ?_
  refine TO.guard_false (s := 27) (b' := true) rfl rfl nofun ?_
  refine TO.guard_false (s := 27) (b' := true) rfl rfl nofun ?_
  refine TO.guard_false (s := 27) (b' := true) rfl rfl nofun ?_
  refine TO.guard_false (s := 27) (b' := true) rfl rfl nofun ?_
  refine rdx (rd_pick_true (v := .bool _) rfl rfl) ?_
  refine TO.nil (TQ.then_normal ?_)
  refine T.cond_true rfl ?_
  refine T.seq (T.region ?_)
  refine rdx (rd_build (cs := [.int _ _, .int _ _, .int _ _, .int _ _, .int _ _, .int _ _, .int _ _, .int _ _, .string _]) Tryz.places30 Tryz.zero30 rfl rfl) ?_
  refine TO.front1 ?_
  refine TO.store0 (cells' := #[.int _ _, .int _ _, .int _ _, .int _ _, .int _ _, .int _ _, .int _ _, .int _ _, .string _]) Tryz.size30 rfl (v := .agg #[.int _ _, .int _ _, .int _ _, .int _ _, .int _ _, .int _ _, .int _ _, .int _ _, .string _]) rfl rfl rfl (Nat.le_of_ble_eq_true rfl) rfl ?_
  refine rdx (rd_assign (v := .slice _ _ _) rfl) ?_
  refine rdx (rd_assign (v := .int _ _) rfl) ?_
  refine TO.nil (TQ.then_normal (T.ret (TQ.then_ret ?_)))
  have hd : decodeOf s = (wish0, [], 150) := ref1 (Option.isNone_iff_eq_none.1 (by simpa using h6))
  refine TQ.done ((none, 0)) (trivial) ?_ (fun _ _ _ => by rw [hd]; exact one_seps nil_row) (res3 Tryz.results27 (Res.cells (cs := #[.int _ _, .int _ _, .int _ _, .int _ _, .int _ _, .int _ _, .int _ _, .int _ _, .string _]) Tryz.agg30 rfl (Has.own 0 rfl) rfl rfl) (Res.tmp (v := .slice _ _ _) rfl) (Res.tmp (v := .int _ _) rfl)) _ (.inl rfl)
  rw [hd]; rfl
 try simp only [nrm] at h6
 refine TO.guard_true (s := 27) rfl rfl ?_
 refine rdx (rd_move (v := .slice _ _ _) rfl) ?_
 obtain ⟨⟨l0, c0⟩, hr0⟩ := Option.isSome_iff_exists.1 (show (rdNs s 1 0).isSome = true by simpa using h6)
 obtain ⟨f, rfl⟩ := one1 (rdNs_len hr0)
 rw [(ints_some hr0).1, (ints_some hr0).2]
 refine TO.guard_true (s := 27) rfl rfl ?_
 refine rdx (rd_ix (k := 0) Tryz.under110 Tryz.size3 rfl rfl (row_slc' (e := eInt) (xs := [f]) (fun _ => rfl) (rfl) (rfl) (Has.own 0 rfl)) rfl (by first | omega | (simp only [List.length_cons, List.length_nil]; omega)) (by first | omega | (simp only [List.length_cons, List.length_nil]; omega))) ?_
 refine TO.guard_true (s := 27) rfl rfl ?_
 refine rdx (rd_el (v := .int .i64 f) 0 0 Tryz.one3 rfl (row_slc' (e := eInt) (xs := [f]) (fun _ => rfl) (rfl) (rfl) (Has.own 0 rfl)) rfl (by first | omega | (simp only [List.length_cons, List.length_nil]; omega)) (Nat.le_of_ble_eq_true rfl) rfl) ?_
 refine TO.guard_true (s := 27) rfl rfl ?_
 refine TO.fn Tryz.enters73 (c_dialtoneref15_in _ _ _) rfl Reads0 ?_
 refine TO.guard_true (s := 27) rfl rfl ?_
 refine rdx (rd_not rfl) ?_
 refine rdx (rd_pick_false (v := .bool _) rfl rfl) ?_
 refine TO.nil (TQ.then_normal ?_)
 refine T.cond rfl (fun h7 => ?_) (fun h7 => ?_)
 ·try simp only [nrm] at h7
  refine T.seq (T.region ?_)
  refine rdx (rd_build (cs := [.int _ _, .int _ _, .int _ _, .int _ _, .int _ _, .int _ _, .int _ _, .int _ _, .string _]) Tryz.places30 Tryz.zero30 rfl rfl) ?_
  refine TO.front1 ?_
  refine TO.store0 (cells' := #[.int _ _, .int _ _, .int _ _, .int _ _, .int _ _, .int _ _, .int _ _, .int _ _, .string _]) Tryz.size30 rfl (v := .agg #[.int _ _, .int _ _, .int _ _, .int _ _, .int _ _, .int _ _, .int _ _, .int _ _, .string _]) rfl rfl rfl (Nat.le_of_ble_eq_true rfl) rfl ?_
  refine rdx (rd_assign (v := .slice _ _ _) rfl) ?_
  refine rdx (rd_assign (v := .int _ _) rfl) ?_
  refine TO.nil (TQ.then_normal (T.ret (TQ.then_ret ?_)))
  have hd : decodeOf s = (wish0, [], 150) := ref2 hr0 (by simpa using h7)
  refine TQ.done ((none, 0)) (trivial) ?_ (fun _ _ _ => by rw [hd]; exact one_seps nil_row) (res3 Tryz.results27 (Res.cells (cs := #[.int _ _, .int _ _, .int _ _, .int _ _, .int _ _, .int _ _, .int _ _, .int _ _, .string _]) Tryz.agg30 rfl (Has.own 0 rfl) rfl rfl) (Res.tmp (v := .slice _ _ _) rfl) (Res.tmp (v := .int _ _) rfl)) _ (.inl rfl)
  rw [hd]; rfl
 try simp only [nrm] at h7
 refine T.skip (TQ.then_normal (T.seq (T.region ?_)))
 refine rdx (rd_assign (v := .slice none 0 0) rfl) ?_
 refine TO.newrow 40 7 ?_
 refine TO.nil (TQ.then_normal (T.seq (T.seq (T.region ?_))))
 refine rdx (rd_assign (v := .int _ _) rfl) ?_
 refine TO.nil (TQ.then_normal (T.block ?_))
 have hwf : within f 0 4 = true := by simpa using h7
 have hf4 : 0 ≤ f ∧ f ≤ 4 := by have hq := hwf; simp only [within, Bool.and_eq_true, decide_eq_true_eq] at hq; exact hq
 refine T.loop5 [0, 2, 5] (fun (A : Option Addr) (cap : Nat) (k : Nat) (l : List Proxy) (c : Nat) => [(6, .int .i64 (c : Nat)), (8, .slice A k cap), (9, .int .i64 (k : Nat))]) (fun (A : Option Addr) (cap : Nat) (k : Nat) (l : List Proxy) (c : Nat) => [row 40 7 A k cap (l.flatMap proxyL)]) (fun (A : Option Addr) (cap : Nat) (k : Nat) (l : List Proxy) (c : Nat) => rfPs s k c0 = some (l, c) ∧ l.length = k ∧ k ≤ f.toNat ∧ c ≤ s.length) (fun (A : Option Addr) (cap : Nat) (k : Nat) (l : List Proxy) (c : Nat) => f.toNat - k) (none) (0) (0) ([]) (c0) (⟨rfl, rfl, Nat.zero_le _, (rdNs_text hr0 (Nat.zero_le _)).2.1⟩) (And.intro (rfl) (And.intro (rfl) (And.intro (rfl) (trivial)))) (fun _ _ h => h) fun A cap k l c g0 hx0 => ?_
 obtain ⟨hps, hlk, hkm, hcs⟩ := hx0
 refine T.seq (T.seq (T.region ?_))
 refine rdx (rd_move (v := .int _ _) rfl) ?_
 refine rdx (rd_move (v := .slice _ _ _) rfl) ?_
 refine rdx (rd_ix (k := 0) Tryz.under110 Tryz.size3 rfl rfl (row_slc' (e := eInt) (xs := [f]) (fun _ => rfl) (rfl) (rfl) (Has.own 1 rfl)) rfl (by first | omega | (simp only [List.length_cons, List.length_nil]; omega)) (by first | omega | (simp only [List.length_cons, List.length_nil]; omega))) ?_
 refine rdx (rd_el (v := .int .i64 f) 0 0 Tryz.one3 rfl (row_slc' (e := eInt) (xs := [f]) (fun _ => rfl) (rfl) (rfl) (Has.own 1 rfl)) rfl (by first | omega | (simp only [List.length_cons, List.length_nil]; omega)) (Nat.le_of_ble_eq_true rfl) rfl) ?_
 refine rdx (rd_lss rfl rfl) ?_
 refine TO.nil (TQ.then_normal ?_)
 refine T.cond rfl (fun h9 => ?_) (fun h9 => ?_)
 ·try simp only [nrm] at h9
  refine T.skip (TQ.then_normal (T.seq (T.block (T.seq (T.region ?_)))))
  refine rdx (rd_move (v := .string _) rfl) ?_
  refine rdx (rd_move (v := .int _ _) rfl) ?_
  refine TO.fnx Tryz.enters72 (c_ref15_ints (s) (c) (7) (by first | omega | assumption) (by omega)) rfl Reads0 (fun ⟨A10, cap11⟩ hx12 => ?_)
  refine rdx (rd_move (v := .tuple _) rfl) ?_
  refine rdx (rd_extract (v := .slice _ _ _) (vs := _) rfl rfl) ?_
  refine rdx (rd_extract (v := .int _ _) (vs := _) rfl rfl) ?_
  refine rdx (rd_extract (v := .bool _) (vs := _) rfl rfl) ?_
  refine rdx (rd_assign (v := .slice _ _ _) rfl) ?_
  refine rdx (rd_assign (v := .int _ _) rfl) ?_
  refine rdx (rd_assign (v := .bool _) rfl) ?_
  refine TO.nil (TQ.then_normal (T.seq (T.seq (T.region ?_))))
  refine rdx (rd_move (v := .bool _) rfl) ?_
  refine rdx (rd_not rfl) ?_
  refine rdx (rd_move (v := .bool _) rfl) ?_
  refine TO.decide (s := 51) rfl (fun h14 => ?_) (fun h14 => ?_)
  ·try simp only [nrm] at h14
   refine TO.guard_false (s := 51) (b' := true) rfl rfl nofun ?_
   refine TO.guard_false (s := 51) (b' := true) rfl rfl nofun ?_
   refine TO.guard_false (s := 51) (b' := true) rfl rfl nofun ?_
   refine TO.guard_false (s := 51) (b' := true) rfl rfl nofun ?_
   refine TO.guard_false (s := 51) (b' := true) rfl rfl nofun ?_
   refine rdx (rd_pick_true (v := .bool _) rfl rfl) ?_
   refine TO.nil (TQ.then_normal ?_)
   refine T.cond_true rfl ?_
   refine T.seq (T.region ?_)
   refine rdx (rd_build (cs := [.int _ _, .int _ _, .int _ _, .int _ _, .int _ _, .int _ _, .int _ _, .int _ _, .string _]) Tryz.places30 Tryz.zero30 rfl rfl) ?_
   refine TO.front3 ?_
   refine TO.store0 (cells' := #[.int _ _, .int _ _, .int _ _, .int _ _, .int _ _, .int _ _, .int _ _, .int _ _, .string _]) Tryz.size30 rfl (v := .agg #[.int _ _, .int _ _, .int _ _, .int _ _, .int _ _, .int _ _, .int _ _, .int _ _, .string _]) rfl rfl rfl (Nat.le_of_ble_eq_true rfl) rfl ?_
   refine rdx (rd_assign (v := .slice _ _ _) rfl) ?_
   refine rdx (rd_assign (v := .int _ _) rfl) ?_
   refine TO.nil (TQ.then_normal (T.ret (TQ.then_ret (TQ.block_ret (TQ.then_ret (TQ.then_ret (TQ.block_ret (TQ.then_ret ?_))))))))
   have hd : decodeOf s = (wish0, [], 150) := ref3 hr0 hwf hps (by omega) (by rw [rfP1, show rdNs s 7 c = none from Option.isNone_iff_eq_none.1 (by simpa using h14)]; rfl)
   refine TQ.done ((none, 0)) (trivial) ?_ (fun _ _ _ => by rw [hd]; exact one_seps nil_row) (res3 Tryz.results27 (Res.cells (cs := #[.int _ _, .int _ _, .int _ _, .int _ _, .int _ _, .int _ _, .int _ _, .int _ _, .string _]) Tryz.agg30 rfl (Has.own 0 rfl) rfl rfl) (Res.tmp (v := .slice _ _ _) rfl) (Res.tmp (v := .int _ _) rfl)) _ (.inl rfl)
   rw [hd]; rfl
  try simp only [nrm] at h14
  refine TO.guard_true (s := 51) rfl rfl ?_
  refine rdx (rd_move (v := .string _) rfl) ?_
  obtain ⟨⟨n7, c7⟩, hr7⟩ := Option.isSome_iff_exists.1 (show (rdNs s 7 c).isSome = true by simpa using h14)
  obtain ⟨x0, x1, x2, x3, x4, x5, x6, rfl⟩ := seven (rdNs_len hr7)
  rw [(ints_some hr7).1, (ints_some hr7).2]
  have hc7 := (rdNs_text hr7 hcs).2.1
  refine TO.guard_true (s := 51) rfl rfl ?_
  refine rdx (rd_lens' Tryz.under9 rfl) ?_
  refine TO.guard_true (s := 51) rfl rfl ?_
  refine rdx (rd_move (v := .int _ _) rfl) ?_
  refine TO.guard_true (s := 51) rfl rfl ?_
  refine rdx (rd_sub rfl rfl (w64 (by first | omega | (simp only [List.length_cons, List.length_nil]; omega)) (by first | omega | (simp only [List.length_cons, List.length_nil]; omega)))) ?_
  refine TO.guard_true (s := 51) rfl rfl ?_
  refine rdx (rd_lss rfl rfl) ?_
  refine rdx (rd_pick_false (v := .bool _) rfl rfl) ?_
  refine TO.nil (TQ.then_normal ?_)
  refine T.cond rfl (fun h15 => ?_) (fun h15 => ?_)
  ·try simp only [nrm] at h15
   refine T.seq (T.region ?_)
   refine rdx (rd_build (cs := [.int _ _, .int _ _, .int _ _, .int _ _, .int _ _, .int _ _, .int _ _, .int _ _, .string _]) Tryz.places30 Tryz.zero30 rfl rfl) ?_
   refine TO.front3 ?_
   refine TO.store0 (cells' := #[.int _ _, .int _ _, .int _ _, .int _ _, .int _ _, .int _ _, .int _ _, .int _ _, .string _]) Tryz.size30 rfl (v := .agg #[.int _ _, .int _ _, .int _ _, .int _ _, .int _ _, .int _ _, .int _ _, .int _ _, .string _]) rfl rfl rfl (Nat.le_of_ble_eq_true rfl) rfl ?_
   refine rdx (rd_assign (v := .slice _ _ _) rfl) ?_
   refine rdx (rd_assign (v := .int _ _) rfl) ?_
   refine TO.nil (TQ.then_normal (T.ret (TQ.then_ret (TQ.block_ret (TQ.then_ret (TQ.then_ret (TQ.block_ret (TQ.then_ret ?_))))))))
   have hd : decodeOf s = (wish0, [], 150) := ref3 hr0 hwf hps (by omega) (by rw [rfP1, hr7, Option.bind_some, rdD, if_neg (by omega)]; rfl)
   refine TQ.done ((none, 0)) (trivial) ?_ (fun _ _ _ => by rw [hd]; exact one_seps nil_row) (res3 Tryz.results27 (Res.cells (cs := #[.int _ _, .int _ _, .int _ _, .int _ _, .int _ _, .int _ _, .int _ _, .int _ _, .string _]) Tryz.agg30 rfl (Has.own 0 rfl) rfl rfl) (Res.tmp (v := .slice _ _ _) rfl) (Res.tmp (v := .int _ _) rfl)) _ (.inl rfl)
   rw [hd]; rfl
  try simp only [nrm] at h15
  refine T.skip (TQ.then_normal (T.seq ?_))
  refine T.drawg Tryz.mixes 28 [(59, 0), (60, 1), (61, 2), (62, 3), (63, 4), (64, 5), (65, 6), (66, 7), (67, 8), (68, 9), (69, 10), (70, 11), (71, 12), (72, 13), (73, 14), (74, 15), (75, 16), (76, 17), (77, 18), (78, 19), (79, 20), (80, 21), (81, 22), (82, 23), (83, 24), (84, 25), (85, 26), (86, 27)] [0, 0, 2, 6, 0, 16, 48, 0, 128, 384, 0, 1024, 3072, 8064, 0, 16384, 49152, 0, 131072, 393216, 1032192, 0, 0, 0, 8388608, 31457280, 67108862, 134217726, 268435455, 536870911] [27] (by kernel_rfl) ?_
  refine DG.rd rfl rfl rfl (fun _ _ => rd_move (v := .slice _ _ _) rfl) ?_
  refine DG.rd rfl rfl rfl (fun _ _ => rd_move (v := .slice _ _ _) rfl) ?_
  refine DG.rd rfl rfl rfl (fun _ _ => rd_ix (k := 1) Tryz.under110 Tryz.size3 rfl rfl (row_slc' (e := eInt) (xs := [x0, x1, x2, x3, x4, x5, x6]) (fun _ => rfl) (rfl) (rfl) (Has.own 0 rfl)) rfl (by first | omega | (simp only [List.length_cons, List.length_nil]; omega)) (by first | omega | (simp only [List.length_cons, List.length_nil]; omega))) ?_
  refine DG.rd rfl rfl rfl (fun _ _ => rd_el (v := .int .i64 x1) 1 0 Tryz.one3 rfl (row_slc' (e := eInt) (xs := [x0, x1, x2, x3, x4, x5, x6]) (fun _ => rfl) (rfl) (rfl) (Has.own 0 rfl)) rfl (by first | omega | (simp only [List.length_cons, List.length_nil]; omega)) (Nat.le_of_ble_eq_true rfl) rfl) ?_
  refine DG.rd rfl rfl rfl (fun _ _ => rd_move (v := .slice _ _ _) rfl) ?_
  refine DG.rd rfl rfl rfl (fun _ _ => rd_ix (k := 2) Tryz.under110 Tryz.size3 rfl rfl (row_slc' (e := eInt) (xs := [x0, x1, x2, x3, x4, x5, x6]) (fun _ => rfl) (rfl) (rfl) (Has.own 0 rfl)) rfl (by first | omega | (simp only [List.length_cons, List.length_nil]; omega)) (by first | omega | (simp only [List.length_cons, List.length_nil]; omega))) ?_
  refine DG.rd rfl rfl rfl (fun _ _ => rd_el (v := .int .i64 x2) 2 0 Tryz.one3 rfl (row_slc' (e := eInt) (xs := [x0, x1, x2, x3, x4, x5, x6]) (fun _ => rfl) (rfl) (rfl) (Has.own 0 rfl)) rfl (by first | omega | (simp only [List.length_cons, List.length_nil]; omega)) (Nat.le_of_ble_eq_true rfl) rfl) ?_
  refine DG.rd rfl rfl rfl (fun _ _ => rd_move (v := .slice _ _ _) rfl) ?_
  refine DG.rd rfl rfl rfl (fun _ _ => rd_ix (k := 3) Tryz.under110 Tryz.size3 rfl rfl (row_slc' (e := eInt) (xs := [x0, x1, x2, x3, x4, x5, x6]) (fun _ => rfl) (rfl) (rfl) (Has.own 0 rfl)) rfl (by first | omega | (simp only [List.length_cons, List.length_nil]; omega)) (by first | omega | (simp only [List.length_cons, List.length_nil]; omega))) ?_
  refine DG.rd rfl rfl rfl (fun _ _ => rd_el (v := .int .i64 x3) 3 0 Tryz.one3 rfl (row_slc' (e := eInt) (xs := [x0, x1, x2, x3, x4, x5, x6]) (fun _ => rfl) (rfl) (rfl) (Has.own 0 rfl)) rfl (by first | omega | (simp only [List.length_cons, List.length_nil]; omega)) (Nat.le_of_ble_eq_true rfl) rfl) ?_
  refine DG.rd rfl rfl rfl (fun _ _ => rd_move (v := .slice _ _ _) rfl) ?_
  refine DG.rd rfl rfl rfl (fun _ _ => rd_ix (k := 4) Tryz.under110 Tryz.size3 rfl rfl (row_slc' (e := eInt) (xs := [x0, x1, x2, x3, x4, x5, x6]) (fun _ => rfl) (rfl) (rfl) (Has.own 0 rfl)) rfl (by first | omega | (simp only [List.length_cons, List.length_nil]; omega)) (by first | omega | (simp only [List.length_cons, List.length_nil]; omega))) ?_
  refine DG.rd rfl rfl rfl (fun _ _ => rd_el (v := .int .i64 x4) 4 0 Tryz.one3 rfl (row_slc' (e := eInt) (xs := [x0, x1, x2, x3, x4, x5, x6]) (fun _ => rfl) (rfl) (rfl) (Has.own 0 rfl)) rfl (by first | omega | (simp only [List.length_cons, List.length_nil]; omega)) (Nat.le_of_ble_eq_true rfl) rfl) ?_
  refine DG.rd rfl rfl rfl (fun _ _ => rd_build (cs := [.int _ _, .int _ _]) Tryz.places27 Tryz.zero27 rfl rfl) ?_
  refine DG.rd rfl rfl rfl (fun _ _ => rd_move (v := .slice _ _ _) rfl) ?_
  refine DG.rd rfl rfl rfl (fun _ _ => rd_ix (k := 5) Tryz.under110 Tryz.size3 rfl rfl (row_slc' (e := eInt) (xs := [x0, x1, x2, x3, x4, x5, x6]) (fun _ => rfl) (rfl) (rfl) (Has.own 0 rfl)) rfl (by first | omega | (simp only [List.length_cons, List.length_nil]; omega)) (by first | omega | (simp only [List.length_cons, List.length_nil]; omega))) ?_
  refine DG.rd rfl rfl rfl (fun _ _ => rd_el (v := .int .i64 x5) 5 0 Tryz.one3 rfl (row_slc' (e := eInt) (xs := [x0, x1, x2, x3, x4, x5, x6]) (fun _ => rfl) (rfl) (rfl) (Has.own 0 rfl)) rfl (by first | omega | (simp only [List.length_cons, List.length_nil]; omega)) (Nat.le_of_ble_eq_true rfl) rfl) ?_
  refine DG.rd rfl rfl rfl (fun _ _ => rd_move (v := .slice _ _ _) rfl) ?_
  refine DG.rd rfl rfl rfl (fun _ _ => rd_ix (k := 6) Tryz.under110 Tryz.size3 rfl rfl (row_slc' (e := eInt) (xs := [x0, x1, x2, x3, x4, x5, x6]) (fun _ => rfl) (rfl) (rfl) (Has.own 0 rfl)) rfl (by first | omega | (simp only [List.length_cons, List.length_nil]; omega)) (by first | omega | (simp only [List.length_cons, List.length_nil]; omega))) ?_
  refine DG.rd rfl rfl rfl (fun _ _ => rd_el (v := .int .i64 x6) 6 0 Tryz.one3 rfl (row_slc' (e := eInt) (xs := [x0, x1, x2, x3, x4, x5, x6]) (fun _ => rfl) (rfl) (rfl) (Has.own 0 rfl)) rfl (by first | omega | (simp only [List.length_cons, List.length_nil]; omega)) (Nat.le_of_ble_eq_true rfl) rfl) ?_
  refine DG.rd rfl rfl rfl (fun _ _ => rd_build (cs := [.int _ _, .int _ _]) Tryz.places28 Tryz.zero28 rfl rfl) ?_
  refine DG.rd rfl rfl rfl (fun _ _ => rd_move (v := .string _) rfl) ?_
  refine DG.rd rfl rfl rfl (fun _ _ => rd_move (v := .int _ _) rfl) ?_
  refine DG.rd rfl rfl rfl (fun _ _ => rd_move (v := .int _ _) rfl) ?_
  refine DG.rd rfl rfl rfl (fun _ _ => rd_add rfl rfl (w64 (by first | omega | (simp only [List.length_cons, List.length_nil]; omega)) (by first | omega | (simp only [List.length_cons, List.length_nil]; omega)))) ?_
  refine DG.rd rfl rfl rfl (fun _ _ => rd_sub_str (i := c7) (j := c7 + 32) Tryz.under9 rfl (.inr ⟨.i64, by exact eqv (by omega)⟩) (.inr ⟨.i64, by exact eqv (by omega)⟩) (by omega) (by omega) rfl) ?_
  refine DG.rd rfl rfl rfl (fun _ _ => rd_build (cs := [.int _ _, .int _ _, .int _ _, .int _ _, .int _ _, .int _ _, .string _]) Tryz.places40 Tryz.zero40 rfl rfl) ?_
  refine DG.buildS (cs := [.int _ _, .int _ _, .int _ _, .int _ _, .int _ _, .int _ _, .string _]) rfl rfl Tryz.under31 Tryz.size40 Tryz.zero40 (Nat.le_of_ble_eq_true rfl) (fun _ _ => rfl) ?_
  refine DG.done rfl (by decide) rfl (fun gh17 => ?_)
  refine TO.front2 ?_
  refine TO.app Tryz.trow40 Tryz.under31 (.inl ⟨_, Tryz.under31⟩) rfl rfl (Src.own1 1 rfl rfl) rfl rfl (by omega) (fun A18 c19 hc20 => ?_)
  refine TO.row_eq (k' := k + 1) (cs' := (l ++ [(⟨x1, x2, x3, x4, x5, x6, ((s.take (c7 + 32)).drop c7)⟩ : Proxy)]).flatMap proxyL) rfl (by rw [List.flatMap_append]; rfl) ?_
  refine rdx (rd_assign (v := .slice _ _ _) rfl) ?_
  refine TO.nil (TQ.then_normal (T.region ?_))
  refine rdx (rd_move (v := .int _ _) rfl) ?_
  refine rdx (rd_add rfl rfl (w64 (by first | omega | (simp only [List.length_cons, List.length_nil]; omega)) (by first | omega | (simp only [List.length_cons, List.length_nil]; omega)))) ?_
  refine rdx (rd_assign (v := .int _ _) rfl) ?_
  refine TO.nil (TQ.block_normal (TQ.then_normal (T.region ?_)))
  refine rdx (rd_move (v := .int _ _) rfl) ?_
  refine rdx (rd_add rfl rfl (w64 (by first | omega | (simp only [List.length_cons, List.length_nil]; omega)) (by first | omega | (simp only [List.length_cons, List.length_nil]; omega)))) ?_
  refine rdx (rd_assign (v := .int _ _) rfl) ?_
  refine TO.nil ?_
  refine TQ.againk (A18, c19, k + 1, l ++ [(⟨x1, x2, x3, x4, x5, x6, ((s.take (c7 + 32)).drop c7)⟩ : Proxy)], c7 + 32) ?_ ?_ (And.intro (rfl) (And.intro (rfl) (And.intro (rfl) (trivial)))) (And.intro (rfl) (And.intro (rfl) (And.intro (rfl) (trivial)))) (fun _ _ h => h.sel (js := [0, 3, 4]) (by decide))
  ·exact ⟨by simp only [rfPs, hps, Option.bind_some, rfP1, hr7, rdD, if_pos (show c7 + 32 ≤ s.length by omega)]; rfl, by dsimp only; rw [List.length_append, hlk]; rfl, by dsimp only; omega, by dsimp only; omega⟩
  ·first | omega | (dsimp only; omega)
 try simp only [nrm] at h9
 refine T.exit (TQ.then_exit (TQ.then_exit (TQ.block_out (TQ.then_normal (T.seq (T.region ?_))))))
 refine rdx (rd_move (v := .string _) rfl) ?_
 refine rdx (rd_move (v := .int _ _) rfl) ?_
 refine TO.fnx Tryz.enters72 (c_ref15_ints (s) (c) (9) (by first | omega | assumption) (by omega)) rfl Reads0 (fun ⟨A21, cap22⟩ hx23 => ?_)
 refine rdx (rd_move (v := .tuple _) rfl) ?_
 refine rdx (rd_extract (v := .slice _ _ _) (vs := _) rfl rfl) ?_
 refine rdx (rd_extract (v := .int _ _) (vs := _) rfl rfl) ?_
 refine rdx (rd_extract (v := .bool _) (vs := _) rfl rfl) ?_
 refine rdx (rd_assign (v := .slice _ _ _) rfl) ?_
 refine rdx (rd_assign (v := .int _ _) rfl) ?_
 refine rdx (rd_assign (v := .bool _) rfl) ?_
 refine TO.nil (TQ.then_normal (T.seq (T.seq (T.region ?_))))
 refine rdx (rd_move (v := .bool _) rfl) ?_
 refine rdx (rd_not rfl) ?_
 refine TO.nil (TQ.then_normal ?_)
 refine T.cond rfl (fun h25 => ?_) (fun h25 => ?_)
 ·try simp only [nrm] at h25
  refine T.seq (T.region ?_)
  refine rdx (rd_build (cs := [.int _ _, .int _ _, .int _ _, .int _ _, .int _ _, .int _ _, .int _ _, .int _ _, .string _]) Tryz.places30 Tryz.zero30 rfl rfl) ?_
  refine TO.front3 ?_
  refine TO.store0 (cells' := #[.int _ _, .int _ _, .int _ _, .int _ _, .int _ _, .int _ _, .int _ _, .int _ _, .string _]) Tryz.size30 rfl (v := .agg #[.int _ _, .int _ _, .int _ _, .int _ _, .int _ _, .int _ _, .int _ _, .int _ _, .string _]) rfl rfl rfl (Nat.le_of_ble_eq_true rfl) rfl ?_
  refine rdx (rd_assign (v := .slice _ _ _) rfl) ?_
  refine rdx (rd_assign (v := .int _ _) rfl) ?_
  refine TO.nil (TQ.then_normal (T.ret (TQ.then_ret ?_)))
  have hd : decodeOf s = (wish0, [], 150) := ref4 hr0 hwf hps (by omega) (Option.isNone_iff_eq_none.1 (by simpa using h25))
  refine TQ.done ((none, 0)) (trivial) ?_ (fun _ _ _ => by rw [hd]; exact one_seps nil_row) (res3 Tryz.results27 (Res.cells (cs := #[.int _ _, .int _ _, .int _ _, .int _ _, .int _ _, .int _ _, .int _ _, .int _ _, .string _]) Tryz.agg30 rfl (Has.own 0 rfl) rfl rfl) (Res.tmp (v := .slice _ _ _) rfl) (Res.tmp (v := .int _ _) rfl)) _ (.inl rfl)
  rw [hd]; rfl
 try simp only [nrm] at h25
 refine T.skip (TQ.then_normal (T.seq ?_))
 obtain ⟨⟨n9, c9⟩, hr9⟩ := Option.isSome_iff_exists.1 (show (rdNs s 9 c).isSome = true by simpa using h25)
 obtain ⟨y0, y1, y2, y3, y4, y5, y6, y7, y8, rfl⟩ := nine (rdNs_len hr9)
 rw [(ints_some hr9).1, (ints_some hr9).2]
 have hc9 := (rdNs_text hr9 hcs).2.1
 refine T.drawg Tryz.mixes 31 [(100, 0), (101, 1), (102, 2), (103, 3), (104, 4), (105, 5), (106, 6), (107, 7), (108, 8), (109, 9), (110, 10), (111, 11), (112, 12), (113, 13), (114, 14), (115, 15), (116, 16), (117, 17), (118, 18), (119, 19), (120, 20), (121, 21), (122, 22), (123, 23), (124, 24), (125, 25), (126, 26), (127, 27), (128, 28), (129, 29), (16, 30)] [0, 1, 3, 0, 8, 24, 0, 64, 192, 0, 512, 1536, 4032, 0, 8192, 24576, 0, 65536, 196608, 0, 524288, 1572864, 0, 4194304, 12582912, 33030144, 0, 0, 201326592, 536870911, 0, 2147483647] [30] (by kernel_rfl) ?_
 refine DG.rd rfl rfl rfl (fun _ _ => rd_move (v := .slice _ _ _) rfl) ?_
 refine DG.rd rfl rfl rfl (fun _ _ => rd_ix (k := 1) Tryz.under110 Tryz.size3 rfl rfl (row_slc' (e := eInt) (xs := [y0, y1, y2, y3, y4, y5, y6, y7, y8]) (fun _ => rfl) (rfl) (rfl) (Has.own 0 rfl)) rfl (by first | omega | (simp only [List.length_cons, List.length_nil]; omega)) (by first | omega | (simp only [List.length_cons, List.length_nil]; omega))) ?_
 refine DG.rd rfl rfl rfl (fun _ _ => rd_el (v := .int .i64 y1) 1 0 Tryz.one3 rfl (row_slc' (e := eInt) (xs := [y0, y1, y2, y3, y4, y5, y6, y7, y8]) (fun _ => rfl) (rfl) (rfl) (Has.own 0 rfl)) rfl (by first | omega | (simp only [List.length_cons, List.length_nil]; omega)) (Nat.le_of_ble_eq_true rfl) rfl) ?_
 refine DG.rd rfl rfl rfl (fun _ _ => rd_move (v := .slice _ _ _) rfl) ?_
 refine DG.rd rfl rfl rfl (fun _ _ => rd_ix (k := 2) Tryz.under110 Tryz.size3 rfl rfl (row_slc' (e := eInt) (xs := [y0, y1, y2, y3, y4, y5, y6, y7, y8]) (fun _ => rfl) (rfl) (rfl) (Has.own 0 rfl)) rfl (by first | omega | (simp only [List.length_cons, List.length_nil]; omega)) (by first | omega | (simp only [List.length_cons, List.length_nil]; omega))) ?_
 refine DG.rd rfl rfl rfl (fun _ _ => rd_el (v := .int .i64 y2) 2 0 Tryz.one3 rfl (row_slc' (e := eInt) (xs := [y0, y1, y2, y3, y4, y5, y6, y7, y8]) (fun _ => rfl) (rfl) (rfl) (Has.own 0 rfl)) rfl (by first | omega | (simp only [List.length_cons, List.length_nil]; omega)) (Nat.le_of_ble_eq_true rfl) rfl) ?_
 refine DG.rd rfl rfl rfl (fun _ _ => rd_move (v := .slice _ _ _) rfl) ?_
 refine DG.rd rfl rfl rfl (fun _ _ => rd_ix (k := 3) Tryz.under110 Tryz.size3 rfl rfl (row_slc' (e := eInt) (xs := [y0, y1, y2, y3, y4, y5, y6, y7, y8]) (fun _ => rfl) (rfl) (rfl) (Has.own 0 rfl)) rfl (by first | omega | (simp only [List.length_cons, List.length_nil]; omega)) (by first | omega | (simp only [List.length_cons, List.length_nil]; omega))) ?_
 refine DG.rd rfl rfl rfl (fun _ _ => rd_el (v := .int .i64 y3) 3 0 Tryz.one3 rfl (row_slc' (e := eInt) (xs := [y0, y1, y2, y3, y4, y5, y6, y7, y8]) (fun _ => rfl) (rfl) (rfl) (Has.own 0 rfl)) rfl (by first | omega | (simp only [List.length_cons, List.length_nil]; omega)) (Nat.le_of_ble_eq_true rfl) rfl) ?_
 refine DG.rd rfl rfl rfl (fun _ _ => rd_move (v := .slice _ _ _) rfl) ?_
 refine DG.rd rfl rfl rfl (fun _ _ => rd_ix (k := 4) Tryz.under110 Tryz.size3 rfl rfl (row_slc' (e := eInt) (xs := [y0, y1, y2, y3, y4, y5, y6, y7, y8]) (fun _ => rfl) (rfl) (rfl) (Has.own 0 rfl)) rfl (by first | omega | (simp only [List.length_cons, List.length_nil]; omega)) (by first | omega | (simp only [List.length_cons, List.length_nil]; omega))) ?_
 refine DG.rd rfl rfl rfl (fun _ _ => rd_el (v := .int .i64 y4) 4 0 Tryz.one3 rfl (row_slc' (e := eInt) (xs := [y0, y1, y2, y3, y4, y5, y6, y7, y8]) (fun _ => rfl) (rfl) (rfl) (Has.own 0 rfl)) rfl (by first | omega | (simp only [List.length_cons, List.length_nil]; omega)) (Nat.le_of_ble_eq_true rfl) rfl) ?_
 refine DG.rd rfl rfl rfl (fun _ _ => rd_build (cs := [.int _ _, .int _ _]) Tryz.places27 Tryz.zero27 rfl rfl) ?_
 refine DG.rd rfl rfl rfl (fun _ _ => rd_move (v := .slice _ _ _) rfl) ?_
 refine DG.rd rfl rfl rfl (fun _ _ => rd_ix (k := 5) Tryz.under110 Tryz.size3 rfl rfl (row_slc' (e := eInt) (xs := [y0, y1, y2, y3, y4, y5, y6, y7, y8]) (fun _ => rfl) (rfl) (rfl) (Has.own 0 rfl)) rfl (by first | omega | (simp only [List.length_cons, List.length_nil]; omega)) (by first | omega | (simp only [List.length_cons, List.length_nil]; omega))) ?_
 refine DG.rd rfl rfl rfl (fun _ _ => rd_el (v := .int .i64 y5) 5 0 Tryz.one3 rfl (row_slc' (e := eInt) (xs := [y0, y1, y2, y3, y4, y5, y6, y7, y8]) (fun _ => rfl) (rfl) (rfl) (Has.own 0 rfl)) rfl (by first | omega | (simp only [List.length_cons, List.length_nil]; omega)) (Nat.le_of_ble_eq_true rfl) rfl) ?_
 refine DG.rd rfl rfl rfl (fun _ _ => rd_move (v := .slice _ _ _) rfl) ?_
 refine DG.rd rfl rfl rfl (fun _ _ => rd_ix (k := 6) Tryz.under110 Tryz.size3 rfl rfl (row_slc' (e := eInt) (xs := [y0, y1, y2, y3, y4, y5, y6, y7, y8]) (fun _ => rfl) (rfl) (rfl) (Has.own 0 rfl)) rfl (by first | omega | (simp only [List.length_cons, List.length_nil]; omega)) (by first | omega | (simp only [List.length_cons, List.length_nil]; omega))) ?_
 refine DG.rd rfl rfl rfl (fun _ _ => rd_el (v := .int .i64 y6) 6 0 Tryz.one3 rfl (row_slc' (e := eInt) (xs := [y0, y1, y2, y3, y4, y5, y6, y7, y8]) (fun _ => rfl) (rfl) (rfl) (Has.own 0 rfl)) rfl (by first | omega | (simp only [List.length_cons, List.length_nil]; omega)) (Nat.le_of_ble_eq_true rfl) rfl) ?_
 refine DG.rd rfl rfl rfl (fun _ _ => rd_move (v := .slice _ _ _) rfl) ?_
 refine DG.rd rfl rfl rfl (fun _ _ => rd_ix (k := 7) Tryz.under110 Tryz.size3 rfl rfl (row_slc' (e := eInt) (xs := [y0, y1, y2, y3, y4, y5, y6, y7, y8]) (fun _ => rfl) (rfl) (rfl) (Has.own 0 rfl)) rfl (by first | omega | (simp only [List.length_cons, List.length_nil]; omega)) (by first | omega | (simp only [List.length_cons, List.length_nil]; omega))) ?_
 refine DG.rd rfl rfl rfl (fun _ _ => rd_el (v := .int .i64 y7) 7 0 Tryz.one3 rfl (row_slc' (e := eInt) (xs := [y0, y1, y2, y3, y4, y5, y6, y7, y8]) (fun _ => rfl) (rfl) (rfl) (Has.own 0 rfl)) rfl (by first | omega | (simp only [List.length_cons, List.length_nil]; omega)) (Nat.le_of_ble_eq_true rfl) rfl) ?_
 refine DG.rd rfl rfl rfl (fun _ _ => rd_move (v := .slice _ _ _) rfl) ?_
 refine DG.rd rfl rfl rfl (fun _ _ => rd_ix (k := 8) Tryz.under110 Tryz.size3 rfl rfl (row_slc' (e := eInt) (xs := [y0, y1, y2, y3, y4, y5, y6, y7, y8]) (fun _ => rfl) (rfl) (rfl) (Has.own 0 rfl)) rfl (by first | omega | (simp only [List.length_cons, List.length_nil]; omega)) (by first | omega | (simp only [List.length_cons, List.length_nil]; omega))) ?_
 refine DG.rd rfl rfl rfl (fun _ _ => rd_el (v := .int .i64 y8) 8 0 Tryz.one3 rfl (row_slc' (e := eInt) (xs := [y0, y1, y2, y3, y4, y5, y6, y7, y8]) (fun _ => rfl) (rfl) (rfl) (Has.own 0 rfl)) rfl (by first | omega | (simp only [List.length_cons, List.length_nil]; omega)) (Nat.le_of_ble_eq_true rfl) rfl) ?_
 refine DG.rd rfl rfl rfl (fun _ _ => rd_build (cs := [.int _ _, .int _ _]) Tryz.places28 Tryz.zero28 rfl rfl) ?_
 refine DG.rd rfl rfl rfl (fun _ _ => rd_move (v := .string _) rfl) ?_
 refine DG.rd rfl rfl rfl (fun _ _ => rd_move (v := .int _ _) rfl) ?_
 refine DG.rd rfl rfl rfl (fun _ _ => rd_sub_str (i := c9) (j := s.length) Tryz.under9 rfl (.inr ⟨.i64, by exact eqv (by omega)⟩) (.inl ⟨rfl, rfl⟩) (by omega) (by omega) rfl) ?_
 refine DG.rd rfl rfl rfl (fun _ _ => rd_build (cs := [.int _ _, .int _ _, .int _ _, .int _ _, .int _ _, .int _ _, .int _ _, .int _ _, .string _]) Tryz.places30 Tryz.zero30 rfl rfl) ?_
 refine DG.alloc rfl rfl Tryz.zero30 ?_
 refine DG.done rfl (by decide) rfl (fun gh27 => ?_)
 refine TO.store0 (cells' := #[.int _ _, .int _ _, .int _ _, .int _ _, .int _ _, .int _ _, .int _ _, .int _ _, .string _]) Tryz.size30 rfl (v := .agg #[.int _ _, .int _ _, .int _ _, .int _ _, .int _ _, .int _ _, .int _ _, .int _ _, .string _]) rfl rfl rfl (Nat.le_of_ble_eq_true rfl) rfl ?_
 refine TO.nil (TQ.then_normal (T.seq (T.region ?_)))
 refine rdx (rd_load_agg (cs := #[.int _ _, .int _ _, .int _ _, .int _ _, .int _ _, .int _ _, .int _ _, .int _ _, .string _]) Tryz.agg30 rfl (Has.own 0 rfl) rfl rfl) ?_
 refine rdx (rd_move (v := .slice _ _ _) rfl) ?_
 refine TO.fn Tryz.enters25 (c_ref15_Encode ((⟨y1, y2, y3, y4, y5, y6, y7, y8, (s.take s.length).drop c9⟩ : Wish)) _ _ _ l (by first | rfl | simp | omega) (by first | omega | assumption | (simp; done))) rfl (ReadsC (row_slc' (e := proxyL) (xs := l) (fun _ => rfl) (hlk.symm) (rfl) (Has.own 2 rfl)) Reads0) ?_
 have hWY : wishOf (List.drop 1 [y0, y1, y2, y3, y4, y5, y6, y7, y8]) (s.drop c9) = (⟨y1, y2, y3, y4, y5, y6, y7, y8, (s.take s.length).drop c9⟩ : Wish) := by rw [List.take_of_length_le (Nat.le_refl _)]; rfl
 refine rdx (rd_move (v := .tuple _) rfl) ?_
 refine rdx (rd_extract (v := .string _) (vs := _) rfl rfl) ?_
 refine rdx (rd_extract (v := .int _ _) (vs := _) rfl rfl) ?_
 refine rdx (rd_assign (v := .string _) rfl) ?_
 refine rdx (rd_assign (v := .int _ _) rfl) ?_
 refine TO.nil (TQ.then_normal (T.seq (T.seq (T.region ?_))))
 refine rdx (rd_move (v := .int _ _) rfl) ?_
 refine rdx (rd_neq rfl rfl) ?_
 refine rdx (rd_move (v := .bool _) rfl) ?_
 refine TO.decide (s := 138) rfl (fun h28 => ?_) (fun h28 => ?_)
 ·try simp only [nrm] at h28
  refine TO.guard_false (s := 138) (b' := true) rfl rfl nofun ?_
  refine TO.guard_false (s := 138) (b' := true) rfl rfl nofun ?_
  refine TO.guard_false (s := 138) (b' := true) rfl rfl nofun ?_
  refine rdx (rd_pick_true (v := .bool _) rfl rfl) ?_
  refine TO.nil (TQ.then_normal ?_)
  refine T.cond_true rfl ?_
  refine T.seq (T.region ?_)
  refine rdx (rd_build (cs := [.int _ _, .int _ _, .int _ _, .int _ _, .int _ _, .int _ _, .int _ _, .int _ _, .string _]) Tryz.places30 Tryz.zero30 rfl rfl) ?_
  refine TO.front4 ?_
  refine TO.store0 (cells' := #[.int _ _, .int _ _, .int _ _, .int _ _, .int _ _, .int _ _, .int _ _, .int _ _, .string _]) Tryz.size30 rfl (v := .agg #[.int _ _, .int _ _, .int _ _, .int _ _, .int _ _, .int _ _, .int _ _, .int _ _, .string _]) rfl rfl rfl (Nat.le_of_ble_eq_true rfl) rfl ?_
  refine rdx (rd_assign (v := .slice _ _ _) rfl) ?_
  refine rdx (rd_assign (v := .int _ _) rfl) ?_
  refine TO.nil (TQ.then_normal (T.ret (TQ.then_ret ?_)))
  have hd : decodeOf s = (wish0, [], 150) := (ref5 hr0 hwf hps (by omega) hr9).2 (by rw [hWY]; intro e; rw [e] at h28; exact absurd rfl h28)
  refine TQ.done ((none, 0)) (trivial) ?_ (fun _ _ _ => by rw [hd]; exact one_seps nil_row) (res3 Tryz.results27 (Res.cells (cs := #[.int _ _, .int _ _, .int _ _, .int _ _, .int _ _, .int _ _, .int _ _, .int _ _, .string _]) Tryz.agg30 rfl (Has.own 0 rfl) rfl rfl) (Res.tmp (v := .slice _ _ _) rfl) (Res.tmp (v := .int _ _) rfl)) _ (.inl rfl)
  rw [hd]; rfl
 try simp only [nrm] at h28
 refine TO.guard_true (s := 138) rfl rfl ?_
 refine rdx (rd_move (v := .string _) rfl) ?_
 refine TO.guard_true (s := 138) rfl rfl ?_
 refine rdx (rd_move (v := .string _) rfl) ?_
 refine TO.guard_true (s := 138) rfl rfl ?_
 refine rdx (rd_nes' rfl rfl) ?_
 refine rdx (rd_pick_false (v := .bool _) rfl rfl) ?_
 refine TO.nil (TQ.then_normal ?_)
 refine T.cond rfl (fun h29 => ?_) (fun h29 => ?_)
 ·try simp only [nrm] at h29
  refine T.seq (T.region ?_)
  refine rdx (rd_build (cs := [.int _ _, .int _ _, .int _ _, .int _ _, .int _ _, .int _ _, .int _ _, .int _ _, .string _]) Tryz.places30 Tryz.zero30 rfl rfl) ?_
  refine TO.front4 ?_
  refine TO.store0 (cells' := #[.int _ _, .int _ _, .int _ _, .int _ _, .int _ _, .int _ _, .int _ _, .int _ _, .string _]) Tryz.size30 rfl (v := .agg #[.int _ _, .int _ _, .int _ _, .int _ _, .int _ _, .int _ _, .int _ _, .int _ _, .string _]) rfl rfl rfl (Nat.le_of_ble_eq_true rfl) rfl ?_
  refine rdx (rd_assign (v := .slice _ _ _) rfl) ?_
  refine rdx (rd_assign (v := .int _ _) rfl) ?_
  refine TO.nil (TQ.then_normal (T.ret (TQ.then_ret ?_)))
  have hd : decodeOf s = (wish0, [], 150) := (ref5 hr0 hwf hps (by omega) hr9).2 (by rw [hWY]; intro e; rw [e] at h29; exact absurd rfl h29)
  refine TQ.done ((none, 0)) (trivial) ?_ (fun _ _ _ => by rw [hd]; exact one_seps nil_row) (res3 Tryz.results27 (Res.cells (cs := #[.int _ _, .int _ _, .int _ _, .int _ _, .int _ _, .int _ _, .int _ _, .int _ _, .string _]) Tryz.agg30 rfl (Has.own 0 rfl) rfl rfl) (Res.tmp (v := .slice _ _ _) rfl) (Res.tmp (v := .int _ _) rfl)) _ (.inl rfl)
  rw [hd]; rfl
 try simp only [nrm] at h29
 refine T.skip (TQ.then_normal (T.seq (T.region ?_)))
 refine rdx (rd_load_agg (cs := #[.int _ _, .int _ _, .int _ _, .int _ _, .int _ _, .int _ _, .int _ _, .int _ _, .string _]) Tryz.agg30 rfl (Has.own 0 rfl) rfl rfl) ?_
 refine rdx (rd_move (v := .slice _ _ _) rfl) ?_
 refine TO.front4 ?_
 refine TO.store0 (cells' := #[.int _ _, .int _ _, .int _ _, .int _ _, .int _ _, .int _ _, .int _ _, .int _ _, .string _]) Tryz.size30 rfl (v := .agg #[.int _ _, .int _ _, .int _ _, .int _ _, .int _ _, .int _ _, .int _ _, .int _ _, .string _]) rfl rfl rfl (Nat.le_of_ble_eq_true rfl) rfl ?_
 refine rdx (rd_assign (v := .slice _ _ _) rfl) ?_
 refine rdx (rd_assign (v := .int _ _) rfl) ?_
 refine TO.nil (TQ.then_normal (T.ret ?_))
 have hd : decodeOf s = ((⟨y1, y2, y3, y4, y5, y6, y7, y8, (s.take s.length).drop c9⟩ : Wish), l, 0) := by have hq := (ref5 hr0 hwf hps (by omega) hr9).1 (by rw [hWY]; exact Prod.ext (by simpa using h29) (by simpa using h28)); rwa [hWY] at hq
 refine TQ.done ((A, cap)) (trivial) ?_ (fun _ _ h => by rw [hd]; exact seps_row 3 rfl hlk.symm rfl h) (res3 Tryz.results27 (Res.cells (cs := #[.int _ _, .int _ _, .int _ _, .int _ _, .int _ _, .int _ _, .int _ _, .int _ _, .string _]) Tryz.agg30 rfl (Has.own 0 rfl) rfl rfl) (Res.tmp (v := .slice _ _ _) rfl) (Res.tmp (v := .int _ _) rfl)) _ (.inl rfl)
 rw [hd, ← hlk]; rfl
end Go.Proofs
end
section
set_option linter.unusedVariables false
set_option linter.unusedSimpArgs false
set_option maxRecDepth 100000
set_option maxHeartbeats 800000
namespace Go.Proofs
open Go.TL
attribute [local irreducible] Go.TL.T Go.TL.TO Go.TL.TQ
theorem Tryz.enters11 : Enters Tryz.prog 11 := fun args w => by kernel_rfl
theorem Tryz.enters15 : Enters Tryz.prog 15 := fun args w => by kernel_rfl
end Go.Proofs
end
section
/- Regions that draw their order, in which one store (to a piece at hand, or to one that the region makes) need not wait for all that is named ahead of it. No program is named here. -/
set_option linter.unusedVariables false
set_option linter.unusedSimpArgs false
namespace Go.TL
theorem seps_under {L L' : List Asn} {A : Asn} (h : ∀ S w, Seps L S w → Seps L' S w) {S : Nat → Prop} {w : World} (hs : Seps (A :: L) S w) : Seps (A :: L') S w := by
  obtain ⟨S1, S2, h1, h2, hd, ha, hr⟩ := hs
  exact ⟨S1, S2, h1, h2, hd, ha, h _ _ hr⟩
theorem seps_take {L : List Asn} {A : Asn} {S : Nat → Prop} {w : World} (j : Nat) (hj : L[j]? = some A) (h : Seps (emp :: L) S w) : Seps (A :: L.set j emp) S w := by
  obtain ⟨F, f1, f2, f3⟩ := h.fam
  have hlt : j < L.length := (List.getElem?_eq_some_iff.1 hj).1
  refine Seps.of_fam (fun i => if i = 0 then F (j + 1) else if i = j + 1 then F 0 else F i) ?_ ?_ ?_
  · intro i b hb
    by_cases e : i = 0
    · simp only [e, if_true] at hb; exact f1 _ b hb
    · by_cases e' : i = j + 1
      · simp only [e', if_true] at hb; exact f1 _ b (by simpa using hb)
      · simp only [e, e', if_false] at hb; exact f1 _ b hb
  · intro i k b hne hi hk
    have inj : ∀ x y : Nat, x ≠ y → (if x = 0 then j + 1 else if x = j + 1 then 0 else x) ≠ (if y = 0 then j + 1 else if y = j + 1 then 0 else y) := by
      intro x y hxy
      split <;> split <;> (try split) <;> (try split) <;> omega
    have e1 : ∀ x, (if x = 0 then F (j + 1) else if x = j + 1 then F 0 else F x) = F (if x = 0 then j + 1 else if x = j + 1 then 0 else x) := by
      intro x
      split
      · rfl
      · split <;> rfl
    rw [e1] at hi hk
    exact f2 _ _ b (inj i k hne) hi hk
  · intro i B hB
    by_cases e : i = 0
    · subst e
      simp only [List.getElem?_cons_zero, Option.some.injEq] at hB
      subst hB
      simp only [if_true]
      exact f3 (j + 1) A (by simpa using hj)
    · obtain ⟨i, rfl⟩ : ∃ q, i = q + 1 := ⟨i - 1, by omega⟩
      rw [List.getElem?_cons_succ] at hB
      by_cases e' : i = j
      · subst e'
        rw [List.getElem?_set] at hB
        simp only [hlt, if_true, Option.some.injEq] at hB
        subst hB
        simp only [Nat.add_one_ne_zero, if_true, if_false]
        exact f3 0 emp rfl
      · rw [List.getElem?_set_ne (fun h => e' h.symm)] at hB
        simp only [Nat.add_one_ne_zero, Nat.add_right_cancel_iff, e', if_false]
        exact f3 (i + 1) B (by simpa using hB)
section
variable {γ : Type}
def mixLx (pr : Nat → Nat → Bool) (sp : List (Spec γ)) (L0 : List Asn) (m J I q : Nat) (ρ : Nat → γ) (X0 : Asn) (X : Nat → Asn) : List Asn :=
  (X0 :: (List.range m).map (fun p => bif (pr q p && !(Nat.beq p J) && !(Nat.beq p I)) then (sp.getD p dspec).c ρ else X p)) ++ L0
def lLx (sp : List (Spec γ)) (L0 : List Asn) (m J I : Nat) (A0 : Asn) (listed : Array Bool) (ρ : Nat → γ) : List Asn :=
  ((bif isL listed J then (sp.getD J dspec).c ρ else A0) :: (List.range m).map (fun p => bif (isL listed p && !(Nat.beq p J) && !(isL listed J && Nat.beq p I)) then (sp.getD p dspec).c ρ else emp)) ++ L0
def fullLx (sp : List (Spec γ)) (L0 : List Asn) (m J I : Nat) (ρ : Nat → γ) : List Asn :=
  ((sp.getD J dspec).c ρ :: (List.range m).map (fun p => bif (!(Nat.beq p J) && !(Nat.beq p I)) then (sp.getD p dspec).c ρ else emp)) ++ L0
theorem lLx_set {sp : List (Spec γ)} {L0 : List Asn} {m J I : Nat} {A0 : Asn} {listed : Array Bool} {ρ ρ' : Nat → γ} {j : Nat} (hjs : j < listed.size) (hnl : isL listed j = false) (hne : j ≠ J) (hI : isL listed J = true → j ≠ I)
    (hsame : ∀ p, p ≠ j → isL listed p = true → (sp.getD p dspec).c ρ' = (sp.getD p dspec).c ρ) (hmi : j < m) :
    (lLx sp L0 m J I A0 listed ρ).set (j + 1) ((sp.getD j dspec).c ρ') = lLx sp L0 m J I A0 (listed.setIfInBounds j true) ρ' := by
  have hlj : isL (listed.setIfInBounds j true) j = true := by simp [isL, Array.getD_eq_getD_getElem?, hjs]
  have hl : ∀ p, p ≠ j → isL (listed.setIfInBounds j true) p = isL listed p := fun p e => by simp [isL, Array.getD_eq_getD_getElem?, Array.getElem?_setIfInBounds_ne (fun h => e h.symm)]
  unfold lLx
  rw [List.cons_append, List.cons_append, List.set_cons_succ, List.set_append_left _ _ (by simpa using hmi), hl J (fun e => hne e.symm)]
  congr 1
  · cases hb : isL listed J with
    | false => rfl
    | true => simp only [_root_.cond_true]; exact (hsame J (fun e => hne e.symm) hb).symm
  · congr 1
    apply List.ext_getElem?
    intro p
    by_cases hp : p < m
    · by_cases e : p = j
      · subst e
        have h1 : Nat.beq p J = false := beq_false hne
        have h2 : (isL listed J && Nat.beq p I) = false := by
          cases hb : isL listed J with
          | false => rfl
          | true => rw [Bool.true_and]; exact beq_false (hI hb)
        simp only [List.getElem?_set, List.length_map, List.length_range, hp, if_true, List.getElem?_map, List.getElem?_range, Option.map_some, hlj, h1, h2, Bool.not_false, Bool.and_true, _root_.cond_true]
      · rw [List.getElem?_set_ne (fun h => e h.symm)]
        simp only [List.getElem?_map, List.getElem?_range, hp, if_true, Option.map_some, Option.some.injEq, hl p e]
        cases hb : isL listed p with
        | false => simp only [Bool.false_and, _root_.cond_false]
        | true => rw [hsame p e hb]
    · simp [hp]
end
section
variable {P : Program} {r : Option Nat} {n : Nat} {ds : List Deferred} {S0 : Nat → Prop} {w0 : World} {G L0 : List Asn} {f0 : Env} {Q : Exit → Act → World → Prop} {ops : Array Oper} {γ : Type} {m : Nat} {wr : Nat → Option Nat} {pr : Nat → Nat → Bool} {R : List Nat} {J I : Nat} {A0 : Asn}
def ObPx (P : Program) (r : Option Nat) (n : Nat) (ds : List Deferred) (S0 : Nat → Prop) (w0 : World) (G : List Asn) (ops : Array Oper) (m : Nat) (wr : Nat → Option Nat) (pr : Nat → Nat → Bool) (J I : Nat) (L0 : List Asn) (f0 : Env) (sp : List (Spec γ)) (j : Nat) (o : Oper) (s : Spec γ) : Prop :=
  ∀ (ρ : Nat → γ) (g : Env) (X0 : Asn) (X : Nat → Asn) (Q' : Exit → Act → World → Prop), TO P r n ds S0 w0 G ops Q' [] (mixLx pr sp L0 m J I j ρ X0 X) (put (mixE wr pr sp f0 j ρ g) o.dst (s.v ρ)) → TO P r n ds S0 w0 G ops Q' [o] (mixLx pr sp L0 m J I j ρ X0 X) (mixE wr pr sp f0 j ρ g)
def ObRx (P : Program) (r : Option Nat) (n : Nat) (ds : List Deferred) (S0 : Nat → Prop) (w0 : World) (G : List Asn) (ops : Array Oper) (m : Nat) (wr : Nat → Option Nat) (pr : Nat → Nat → Bool) (J I : Nat) (L0 : List Asn) (f0 : Env) (sp : List (Spec γ)) (j : Nat) (o : Oper) (s : Spec γ) : Prop :=
  ∀ (ρ : Nat → γ) (g : Env) (X0 : Asn) (X : Nat → Asn) (Q' : Exit → Act → World → Prop), (∀ x, TO P r n ds S0 w0 G ops Q' [] (s.c (gupd ρ j x) :: mixLx pr sp L0 m J I j ρ X0 X) (put (mixE wr pr sp f0 j ρ g) o.dst (s.v (gupd ρ j x)))) → TO P r n ds S0 w0 G ops Q' [o] (mixLx pr sp L0 m J I j ρ X0 X) (mixE wr pr sp f0 j ρ g)
def ObTx (P : Program) (r : Option Nat) (n : Nat) (ds : List Deferred) (S0 : Nat → Prop) (w0 : World) (G : List Asn) (ops : Array Oper) (m : Nat) (wr : Nat → Option Nat) (pr : Nat → Nat → Bool) (J I : Nat) (A0 : Asn) (L0 : List Asn) (f0 : Env) (sp : List (Spec γ)) (j : Nat) (o : Oper) (s : Spec γ) : Prop :=
  ∀ (ρ : Nat → γ) (g : Env) (X : Nat → Asn) (Q' : Exit → Act → World → Prop), (I < m → X I = (sp.getD I dspec).c ρ) → TO P r n ds S0 w0 G ops Q' [] (mixLx pr sp L0 m J I j ρ (s.c ρ) (fun p => bif Nat.beq p I then emp else X p)) (put (mixE wr pr sp f0 j ρ g) o.dst (s.v ρ)) → TO P r n ds S0 w0 G ops Q' [o] (mixLx pr sp L0 m J I j ρ A0 X) (mixE wr pr sp f0 j ρ g)
structure Owedx (P : Program) (r : Option Nat) (n : Nat) (ds : List Deferred) (S0 : Nat → Prop) (w0 : World) (G : List Asn) (ops : Array Oper) (m : Nat) (wr : Nat → Option Nat) (pr : Nat → Nat → Bool) (R : List Nat) (J I : Nat) (A0 : Asn) (L0 : List Asn) (f0 : Env) (sp : List (Spec γ)) (j : Nat) (s : Spec γ) : Prop where
  ind : Ind pr R j s
  ob : ∃ o, ops[j]? = some o ∧ ((j ≠ J ∧ ObPx P r n ds S0 w0 G ops m wr pr J I L0 f0 sp j o s ∧ j ∉ R ∧ ∀ ρ, s.c ρ = emp) ∨ (j ≠ J ∧ ObRx P r n ds S0 w0 G ops m wr pr J I L0 f0 sp j o s ∧ j ∈ R) ∨ (j = J ∧ ObTx P r n ds S0 w0 G ops m wr pr J I A0 L0 f0 sp j o s ∧ j ∉ R))
def DRx (P : Program) (r : Option Nat) (n : Nat) (ds : List Deferred) (S0 : Nat → Prop) (w0 : World) (G : List Asn) (Q : Exit → Act → World → Prop) (ops : Array Oper) (m : Nat) (wr : Nat → Option Nat) (pr : Nat → Nat → Bool) (R : List Nat) (J I : Nat) (A0 : Asn) (L0 : List Asn) (f0 : Env) (j : Nat) (sp : List (Spec γ)) : Prop :=
  sp.length = j ∧ ∃ sp', sp.length + sp'.length = m ∧ (∀ k, k < sp'.length → Owedx P r n ds S0 w0 G ops m wr pr R J I A0 L0 f0 (sp ++ sp'.take k) (sp.length + k) (sp'.getD k dspec)) ∧
    ∀ ρ, TO P r n ds S0 w0 G ops Q (ops.toList.drop m) (fullLx (sp ++ sp') L0 m J I ρ) (fullE wr (sp ++ sp') f0 ρ)
theorem DRx.step {j : Nat} {sp : List (Spec γ)} (s : Spec γ) (hsp : sp.length = j) (ho : Owedx P r n ds S0 w0 G ops m wr pr R J I A0 L0 f0 sp j s) (h : DRx P r n ds S0 w0 G Q ops m wr pr R J I A0 L0 f0 (j + 1) (sp ++ [s])) : DRx P r n ds S0 w0 G Q ops m wr pr R J I A0 L0 f0 j sp := by
  obtain ⟨h1, sp', h2, h3, h4⟩ := h
  refine ⟨hsp, s :: sp', by simp at h2 ⊢; omega, fun k hk => ?_, fun ρ => by have := h4 ρ; simpa using this⟩
  cases k with
  | zero => simp only [List.take_zero, List.append_nil, Nat.add_zero, hsp]; exact ho
  | succ k =>
    have := h3 k (by simpa using hk)
    simp only [List.length_append, List.length_cons, List.length_nil] at this
    simp only [List.take_succ_cons]
    rw [show sp.length + (k + 1) = sp.length + (0 + 1) + k from by omega, show sp ++ s :: List.take k sp' = sp ++ [s] ++ List.take k sp' from by simp]
    simpa using this
theorem DRx.done {sp : List (Spec γ)} (hsp : sp.length = m) (h : ∀ ρ, TO P r n ds S0 w0 G ops Q (ops.toList.drop m) (fullLx sp L0 m J I ρ) (fullE wr sp f0 ρ)) : DRx P r n ds S0 w0 G Q ops m wr pr R J I A0 L0 f0 m sp :=
  ⟨hsp, [], by simpa using hsp, fun k hk => by simp at hk, fun ρ => by simpa using h ρ⟩
theorem T.drawX0 (hmix : P.follows .mixedOrders = true) {id : Nat} (wrl : List (Nat × Nat)) (prl R : List Nat) (hok : drawOk ops.toList m wrl prl = true) (hJm : J < m) (hI : I < m → prOf prl J I = true)
    (h : DRx P r n ds S0 w0 G Q ops m (wrOf wrl) (prOf prl) R J I A0 L0 f0 0 ([] : List (Spec γ))) [Inhabited γ] : T P r n ds S0 w0 G Q (.region id ops true) (A0 :: L0) f0 := fun w hw => by
  have hd := DrawOk.of hok
  generalize wrOf wrl = wr at *
  generalize prOf prl = pr at *
  obtain ⟨_, sp, hlen, hob, hfin⟩ := h
  simp only [List.length_nil, Nat.zero_add, List.nil_append] at hlen hob hfin
  refine wpIn_region_any hmix ?_
  -- the invariant
  let Cl : Array Bool → Prop := fun listed => ∀ q, isL listed q = true → ∀ p, pr q p = true → isL listed p = true
  let Hd : Array Bool → Act → World → Prop := fun listed a w => (∀ k, m ≤ k → isL listed k = false) ∧ ∃ ρ, a = act n (lE wr sp f0 listed ρ) ds ∧ St S0 w0 G (lLx sp L0 m J I A0 listed ρ) w
  let Tl : Array Bool → Act → World → Prop := fun listed a w => ∃ k, m ≤ k ∧ k ≤ ops.size ∧ (∀ j, j < k → isL listed j = true) ∧ (∀ j, k ≤ j → isL listed j = false) ∧ wpL P r ops Q (ops.toList.drop k) a w
  have hready : ∀ (listed : Array Bool) (j : Nat), Cl listed → j ∈ Region.ready .any ops listed → ∀ p, pr j p = true → isL listed p = true := by
    intro listed j hcl hj p hp
    obtain ⟨_, _, o, ho, he⟩ := mem_ready' hj
    obtain ⟨_, e, hmem, hb, hor⟩ := hd.clos j o ho p hp
    rcases hor with rfl | hpr
    · exact he e hmem hb
    · exact hcl e.on (he e hmem hb) p hpr
  have toTl : ∀ (listed : Array Bool) (a : Act) (w : World), (∀ j, j < m → isL listed j = true) → Hd listed a w → Tl listed a w := by
    rintro listed a w hall ⟨hnot, ρ, rfl, hst⟩
    refine ⟨m, Nat.le_refl _, hd.hm, hall, hnot, ?_⟩
    have e1 : lE wr sp f0 listed ρ = fullE wr sp f0 ρ := by
      funext t
      simp only [lE, fullE]
      cases hw : wr t with
      | none => rfl
      | some p => simp only [hall p (hd.wrm t p hw).1, _root_.cond_true]
    have e2 : lLx sp L0 m J I A0 listed ρ = fullLx sp L0 m J I ρ := by
      unfold lLx fullLx
      rw [hall J hJm]
      simp only [_root_.cond_true, Bool.true_and]
      congr 2
      apply List.map_congr_left
      intro p hp
      rw [hall p (by simpa using hp), Bool.true_and]
    rw [e1]
    rw [e2] at hst
    exact hfin ρ w hst
  have main : ∀ (fuel : Nat) (listed : Array Bool) (a : Act) (w : World), listed.size = ops.size → listed.toList.countP (fun b => !b) ≤ fuel → Cl listed → (Hd listed a w ∨ Tl listed a w) → wpAnyIn (Wd r) 0 P .any ops Q fuel listed a w := by
    have hend : ∀ (listed : Array Bool) (a : Act) (w : World), listed.size = ops.size → Cl listed → (Hd listed a w ∨ Tl listed a w) → Region.ready .any ops listed = [] → Q .normal a w := by
      intro listed a w hsz hcl hI hr
      have hall : ∀ j, j < ops.size → isL listed j = true := by
        intro j
        induction j using Nat.strongRecOn with
        | _ j ih =>
          intro hj
          cases hb : isL listed j with
          | true => rfl
          | false =>
            exfalso
            have : j ∈ Region.ready .any ops listed := by
              simp only [Region.ready, List.mem_filter, List.mem_range, Bool.and_eq_true, Bool.not_eq_true', hj, true_and]
              refine ⟨?_, ?_⟩
              · have hj' : j < listed.size := by omega
                simp only [isL, Array.getD_eq_getD_getElem?, hj', Array.getElem?_eq_getElem, Option.getD_some] at hb ⊢
                exact hb
              · simp only [hj, Array.getElem?_eq_getElem, Option.map_some, Option.getD_some, Array.all_eq_true']
                intro e he
                cases hbe : Region.binds .any e with
                | false => rfl
                | true =>
                  have hlt := hd.back j ops[j] (by simp [hj]) e he hbe
                  have := ih e.on hlt (by omega)
                  simpa [isL] using this
            rw [hr] at this
            cases this
      have hT : Tl listed a w := hI.elim (fun h => toTl listed a w (fun j hj => hall j (Nat.lt_of_lt_of_le hj hd.hm)) h) (fun h => h)
      obtain ⟨k, hk1, hk2, _, hk4, hk5⟩ := hT
      have hk : k = ops.size := by
        rcases Nat.lt_or_ge k ops.size with h | h
        · have h1 := hk4 k (Nat.le_refl _)
          rw [hall k h] at h1
          cases h1
        · omega
      subst hk
      rw [List.drop_eq_nil_of_le (by simp)] at hk5
      exact hk5
    intro fuel
    induction fuel with
    | zero =>
      intro listed a w hsz hc hcl hI
      have hr : Region.ready .any ops listed = [] := by
        cases hr : Region.ready .any ops listed with
        | nil => rfl
        | cons x xs =>
          exfalso
          obtain ⟨h1, h2, _⟩ := mem_ready' (listed := listed) (j := x) (ops := ops) (by rw [hr]; simp)
          have hx : x < listed.size := by omega
          simp only [Array.getD_eq_getD_getElem?, hx, Array.getElem?_eq_getElem, Option.getD_some] at h2
          have : 0 < listed.toList.countP (fun b => !b) := List.countP_pos_iff.2 ⟨listed[x], by simp, by simp [h2]⟩
          omega
      exact ⟨hr, hend listed a w hsz hcl hI hr⟩
    | succ fuel ih =>
      intro listed a w hsz hc hcl hI
      refine ⟨hend listed a w hsz hcl hI, fun i hi => ?_⟩
      obtain ⟨hi1, hi2, o, ho, hedge⟩ := mem_ready' hi
      have his : i < listed.size := by omega
      have hnl : isL listed i = false := by
        simp only [isL, Array.getD_eq_getD_getElem?, his, Array.getElem?_eq_getElem, Option.getD_some] at hi2 ⊢
        exact hi2
      have hcount : (listed.setIfInBounds i true).toList.countP (fun b => !b) ≤ fuel := by
        have h2' : listed.toList[i]'(by simpa using his) = false := by
          simp only [Array.getD_eq_getD_getElem?, his, Array.getElem?_eq_getElem, Option.getD_some] at hi2
          simpa using hi2
        have := List.countP_set (p := fun b : Bool => !b) (l := listed.toList) (i := i) (a := true) (h := by simpa using his)
        simp only [h2', Bool.not_false, Bool.not_true, if_true] at this
        rw [Array.toList_setIfInBounds, this]
        simp only [Bool.false_eq_true, if_false]
        have hpos : 0 < listed.toList.countP (fun b => !b) := List.countP_pos_iff.2 ⟨listed.toList[i]'(by simpa using his), List.getElem_mem _, by simp [h2']⟩
        omega
      have hsz' : (listed.setIfInBounds i true).size = ops.size := by simpa using hsz
      have hlj : isL (listed.setIfInBounds i true) i = true := by simp [isL, Array.getD_eq_getD_getElem?, his]
      have hl : ∀ p, p ≠ i → isL (listed.setIfInBounds i true) p = isL listed p := fun p e => by simp [isL, Array.getD_eq_getD_getElem?, Array.getElem?_setIfInBounds_ne (fun h => e h.symm)]
      have hcl' : Cl (listed.setIfInBounds i true) := by
        intro q hq p hp
        by_cases ep : p = i
        · rw [ep]; exact hlj
        · rw [hl p ep]
          by_cases eq : q = i
          · subst eq; exact hready listed q hcl hi p hp
          · rw [hl q eq] at hq; exact hcl q hq p hp
      have next : ∀ a' w', (Hd (listed.setIfInBounds i true) a' w' ∨ Tl (listed.setIfInBounds i true) a' w') → wpAnyIn (Wd r) 0 P .any ops Q fuel (listed.setIfInBounds i true) a' w' := fun a' w' h => ih _ a' w' hsz' hcount hcl' h
      -- the tail's step
      have tailStep : Tl listed a w → wpOpIn (Wd r) 0 P ops Q i (wpAnyIn (Wd r) 0 P .any ops Q fuel (listed.setIfInBounds i true)) a w := by
        rintro ⟨k, hk1, hk2, hk3, hk4, hk5⟩
        have hik : i = k := by
          rcases Nat.lt_trichotomy i k with h | h | h
          · rw [hk3 i h] at hnl; cases hnl
          · exact h
          · have := hready listed i hcl hi k (hd.tail i (by omega) hi1 k h)
            rw [hk4 k (Nat.le_refl _)] at this
            cases this
        subst hik
        have hdrop : ops.toList.drop i = o :: ops.toList.drop (i + 1) := by
          rw [List.drop_eq_getElem_cons (by simpa using hi1)]
          congr 1
          have := Array.getElem?_eq_some_iff.1 ho
          obtain ⟨_, h⟩ := this
          simpa using h
        rw [hdrop] at hk5
        have nextT : ∀ a' w', wpL P r ops Q (ops.toList.drop (i + 1)) a' w' → wpAnyIn (Wd r) 0 P .any ops Q fuel (listed.setIfInBounds i true) a' w' := fun a' w' h =>
          next a' w' (.inr ⟨i + 1, by omega, by omega, fun j hj => by
            by_cases e : j = i
            · rw [e]; exact hlj
            · rw [hl j e]; exact hk3 j (by omega), fun j hj => by rw [hl j (by omega)]; exact hk4 j (by omega), h⟩)
        simp only [wpL] at hk5
        simp only [wpOpIn, ho]
        split
        · rename_i hw'
          rw [if_pos hw'] at hk5
          exact Oper.wpIn_mono nextT hk5
        · rename_i hw'
          rw [if_neg hw'] at hk5
          exact ⟨fun _ _ => trivial, nextT _ _ hk5⟩
      rcases hI with hH | hT
      · by_cases him : i < m
        · -- a step of the head
          obtain ⟨hnot, ρ, rfl, hst⟩ := hH
          have hlt : i < sp.length := by omega
          obtain ⟨hind, o', ho', hob'⟩ := hob i hlt
          rw [ho] at ho'
          cases ho'
          have hpl : ∀ p, pr i p = true → isL listed p = true := hready listed i hcl hi
          have hpi : ∀ p, pr i p = true → p < i := fun p hp => (hd.clos i o ho p hp).1
          have hgd : ∀ p, p < i → (sp.take i).getD p dspec = sp.getD p dspec := fun p hp => by simp [List.getD_eq_getElem?_getD, List.getElem?_take, hp]
          have eE : mixE wr pr (sp.take i) f0 i ρ (lE wr sp f0 listed ρ) = lE wr sp f0 listed ρ := by
            funext t
            simp only [mixE, lE]
            cases hw : wr t with
            | none => rfl
            | some p =>
              cases hp : pr i p with
              | true => simp only [hp, _root_.cond_true, hpl p hp, hgd p (hpi p hp)]
              | false =>
                cases hq : (pr p i || Nat.beq p i) with
                | false => simp only [hp, hq, _root_.cond_false]
                | true =>
                  have : isL listed p = false := by
                    rcases Bool.or_eq_true_iff.1 hq with h | h
                    · cases hb : isL listed p with
                      | false => rfl
                      | true => rw [hcl p hb i h] at hnl; cases hnl
                    · rw [Nat.eq_of_beq_eq_true h]; exact hnl
                  simp only [hp, hq, _root_.cond_false, _root_.cond_true, this]
          have eL : mixLx pr (sp.take i) L0 m J I i ρ (bif isL listed J then (sp.getD J dspec).c ρ else A0) (fun p => bif (isL listed p && !(Nat.beq p J) && !(isL listed J && Nat.beq p I)) then (sp.getD p dspec).c ρ else emp) = lLx sp L0 m J I A0 listed ρ := by
            unfold mixLx lLx
            congr 2
            apply List.map_congr_left
            intro p _
            cases hp : pr i p with
            | true =>
              cases h1 : Nat.beq p J with
              | true => simp only [h1, Bool.not_true, Bool.and_false, Bool.false_and, _root_.cond_false]
              | false =>
                cases h2 : Nat.beq p I with
                | true => simp only [h1, h2, Bool.not_true, Bool.not_false, Bool.and_false, Bool.and_true, _root_.cond_false]
                | false => simp only [h1, h2, Bool.not_false, Bool.and_false, Bool.and_true, _root_.cond_true, hpl p hp, hgd p (hpi p hp)]
            | false => simp only [Bool.false_and, _root_.cond_false]
          have hIJ : isL listed J = true → I < m → isL listed I = true := fun h1 h2 => hcl J h1 I (hI h2)
          have hnot' : ∀ k, m ≤ k → isL (listed.setIfInBounds i true) k = false := fun k hk => by rw [hl k (by omega)]; exact hnot k hk
          -- what is done abides another ghost of i
          have hsame : ∀ p, p ≠ i → isL listed p = true → i ∈ R → ∀ x, (sp.getD p dspec).v (gupd ρ i x) = (sp.getD p dspec).v ρ ∧ (sp.getD p dspec).c (gupd ρ i x) = (sp.getD p dspec).c ρ := by
            intro p hp hpl' hiR x
            by_cases hps : p < sp.length
            · refine (hob p hps).ind i hiR (fun e => hp e.symm) ?_ ρ x
              cases hb : pr p i with
              | false => rfl
              | true => rw [hcl p hpl' i hb] at hnl; cases hnl
            · have : sp.getD p dspec = dspec := by simp [List.getD_eq_getElem?_getD, List.getElem?_eq_none (Nat.not_lt.1 hps)]
              rw [this]
              exact ⟨rfl, rfl⟩
          have conclude : TO P r n ds S0 w0 G ops (fun e a' w' => match e with | .normal => wpAnyIn (Wd r) 0 P .any ops Q fuel (listed.setIfInBounds i true) a' w' | e => Q e a' w') [o] (lLx sp L0 m J I A0 listed ρ) (lE wr sp f0 listed ρ) → wpOpIn (Wd r) 0 P ops Q i (wpAnyIn (Wd r) 0 P .any ops Q fuel (listed.setIfInBounds i true)) (act n (lE wr sp f0 listed ρ) ds) w := by
            intro hto
            have h1 := hto w hst
            simp only [wpL] at h1
            simp only [wpOpIn, ho]
            split
            · rename_i hw'
              rw [if_pos hw'] at h1
              refine ⟨fun _ _ => trivial, ?_⟩
              have h2 := h1.2
              generalize (Oper.semAt (Wd r).round (act n (lE wr sp f0 listed ρ) ds).eval o).run P w = z at h2 ⊢
              cases z with
              | ok y w' =>
                cases y <;> simp only [Oper.uponIn] at h2 ⊢ <;> first
                  | exact h2
                  | exact ⟨h2.1, CallsIn.mono h2.2 (fun e w'' he => by cases e <;> first | exact he | (obtain ⟨a0, w0', hq⟩ := he; exact ⟨a0, w0', hq⟩))⟩
                  | exact ⟨h2.1, RoundIn.mono h2.2 (fun e w'' he => by cases e <;> first | exact he | (obtain ⟨a0, w0', hq⟩ := he; exact ⟨a0, w0', hq⟩))⟩
              | halt y w' => cases y <;> simp only [Oper.uponIn] at h2 ⊢ <;> exact h2
            · rename_i hw'
              rw [if_neg hw'] at h1
              exact ⟨fun _ _ => trivial, h1⟩
          have QQ : ∀ e : Exit, True := fun _ => trivial
          rcases hob' with ⟨hne, hP, hnR, hemp⟩ | ⟨hne, hR, hiR⟩ | ⟨hiJ, hT, hnR⟩
          · refine conclude ?_
            have := hP ρ (lE wr sp f0 listed ρ) (bif isL listed J then (sp.getD J dspec).c ρ else A0) (fun p => bif (isL listed p && !(Nat.beq p J) && !(isL listed J && Nat.beq p I)) then (sp.getD p dspec).c ρ else emp) (fun e a' w' => match e with | .normal => wpAnyIn (Wd r) 0 P .any ops Q fuel (listed.setIfInBounds i true) a' w' | e => Q e a' w')
            rw [eE, eL] at this
            refine this fun w' hst' => ?_
            show wpAnyIn (Wd r) 0 P .any ops Q fuel (listed.setIfInBounds i true) _ w'
            refine next _ _ (.inl ⟨hnot', ρ, ?_, ?_⟩)
            · rw [lE_set hd ho him his (fun _ _ _ => rfl)]
            · rw [← lLx_set (hmi := him) (ρ := ρ) his hnl hne (fun h1 => by rintro rfl; rw [hIJ h1 him] at hnl; cases hnl) (fun _ _ _ => rfl), hemp]
              refine hst'.conv fun S w'' hs => ?_
              have hj : (lLx sp L0 m J I A0 listed ρ)[i + 1]? = some emp := by
                unfold lLx
                rw [List.cons_append, List.getElem?_cons_succ, List.getElem?_append_left (by simpa using him)]
                simp [him, hnl]
              have hset : (lLx sp L0 m J I A0 listed ρ).set (i + 1) emp = lLx sp L0 m J I A0 listed ρ := by
                apply List.ext_getElem?
                intro q
                by_cases e : q = i + 1
                · subst e; rw [hj, List.getElem?_set]; simp [(List.getElem?_eq_some_iff.1 hj).1]
                · rw [List.getElem?_set_ne (fun h => e h.symm)]
              rw [hset]
              exact hs
          · refine conclude ?_
            have := hR ρ (lE wr sp f0 listed ρ) (bif isL listed J then (sp.getD J dspec).c ρ else A0) (fun p => bif (isL listed p && !(Nat.beq p J) && !(isL listed J && Nat.beq p I)) then (sp.getD p dspec).c ρ else emp) (fun e a' w' => match e with | .normal => wpAnyIn (Wd r) 0 P .any ops Q fuel (listed.setIfInBounds i true) a' w' | e => Q e a' w')
            rw [eE, eL] at this
            refine this fun x w' hst' => ?_
            show wpAnyIn (Wd r) 0 P .any ops Q fuel (listed.setIfInBounds i true) _ w'
            refine next _ _ (.inl ⟨hnot', gupd ρ i x, ?_, ?_⟩)
            · rw [lE_set hd ho him his (fun p hp hpl' => (hsame p hp hpl' hiR x).1)]
            · rw [← lLx_set (hmi := him) (ρ := ρ) his hnl hne (fun h1 => by rintro rfl; rw [hIJ h1 him] at hnl; cases hnl) (fun p hp hpl' => (hsame p hp hpl' hiR x).2)]
              refine hst'.conv fun S w'' hs => ?_
              refine Seps.put_emp (i + 1) ?_ hs
              unfold lLx
              rw [List.cons_append, List.getElem?_cons_succ, List.getElem?_append_left (by simpa using him)]
              simp [him, hnl]
          · subst hiJ
            refine conclude ?_
            have := hT ρ (lE wr sp f0 listed ρ) (fun p => bif (isL listed p && !(Nat.beq p i) && !(isL listed i && Nat.beq p I)) then (sp.getD p dspec).c ρ else emp) (fun e a' w' => match e with | .normal => wpAnyIn (Wd r) 0 P .any ops Q fuel (listed.setIfInBounds i true) a' w' | e => Q e a' w') (fun hIm => by
              have h1 := hpl I (hI hIm)
              have h2 : Nat.beq I i = false := by
                cases h : Nat.beq I i with
                | false => rfl
                | true => rw [Nat.eq_of_beq_eq_true h, hnl] at h1; cases h1
              simp only [h1, h2, hnl, Bool.not_false, Bool.false_and, Bool.and_true, _root_.cond_true]
              rw [hgd I (hpi I (hI hIm))])
            have eL' := eL
            rw [hnl, _root_.cond_false] at eL'
            rw [hnl] at this
            rw [eE, eL'] at this
            refine this fun w' hst' => ?_
            show wpAnyIn (Wd r) 0 P .any ops Q fuel (listed.setIfInBounds i true) _ w'
            refine next _ _ (.inl ⟨hnot', ρ, ?_, ?_⟩)
            · rw [lE_set hd ho him his (fun _ _ _ => rfl)]
            · refine hst'.conv fun S w'' hs => ?_
              have e3 : mixLx pr (sp.take i) L0 m i I i ρ ((sp.getD i dspec).c ρ) (fun p => bif Nat.beq p I then emp else bif (isL listed p && !(Nat.beq p i) && !(false && Nat.beq p I)) then (sp.getD p dspec).c ρ else emp) = lLx sp L0 m i I A0 (listed.setIfInBounds i true) ρ := by
                unfold mixLx lLx
                rw [hlj, _root_.cond_true]
                congr 2
                apply List.map_congr_left
                intro p _
                have hlp : Nat.beq p i = false → isL (listed.setIfInBounds i true) p = isL listed p := fun h => hl p (fun e => by rw [e] at h; simp at h)
                cases h1 : Nat.beq p i with
                | true => cases h2 : Nat.beq p I <;> simp only [h1, h2, Bool.not_true, Bool.not_false, Bool.and_false, Bool.false_and, _root_.cond_false, _root_.cond_true]
                | false =>
                  rw [hlp h1]
                  cases h2 : Nat.beq p I with
                  | true => simp only [h1, h2, Bool.not_true, Bool.not_false, Bool.and_false, Bool.and_true, Bool.true_and, _root_.cond_false, _root_.cond_true]
                  | false =>
                    cases hp : pr i p with
                    | true => simp only [h1, h2, Bool.not_false, Bool.and_false, Bool.and_true, Bool.true_and, _root_.cond_true, hpl p hp, hgd p (hpi p hp)]
                    | false => simp only [h1, h2, Bool.not_false, Bool.and_false, Bool.and_true, Bool.false_and, Bool.true_and, _root_.cond_false]
              rw [← e3]
              exact hs
        · -- the tail begins
          refine tailStep (toTl listed a w (fun j hj => ?_) hH)
          exact hready listed i hcl hi j (hd.tail i (Nat.not_lt.1 him) hi1 j (by omega))
      · exact tailStep hT
  refine main ops.size _ _ _ (by simp) ?_ (fun q hq => by simp [isL, Array.getD_eq_getD_getElem?, Array.getElem?_replicate] at hq; split at hq <;> simp at hq) (.inl ⟨fun k _ => ?_, fun _ => default, ?_, ?_⟩)
  · exact Nat.le_trans List.countP_le_length (by simp)
  · simp only [isL, Array.getD_eq_getD_getElem?, Array.getElem?_replicate]; split <;> rfl
  · congr 1
    funext t
    simp only [lE]
    cases wr t with
    | none => rfl
    | some p =>
      have : isL (Array.replicate ops.size false) p = false := by simp only [isL, Array.getD_eq_getD_getElem?, Array.getElem?_replicate]; split <;> rfl
      simp only [this, _root_.cond_false]
  · refine (hw.drew).conv fun S w' hs => ?_
    have hall : ∀ p, isL (Array.replicate ops.size false) p = false := fun p => by simp only [isL, Array.getD_eq_getD_getElem?, Array.getElem?_replicate]; split <;> rfl
    have : lLx sp L0 m J I A0 (Array.replicate ops.size false) (fun _ => default) = A0 :: ((List.range m).map (fun _ => emp) ++ L0) := by
      unfold lLx
      rw [hall J, _root_.cond_false, List.cons_append]
      congr 2
      apply List.map_congr_left
      intro p _
      simp only [hall p, Bool.false_and, _root_.cond_false]
    rw [this]
    clear this
    refine seps_under (fun S w' hs => ?_) hs
    refine Seps.app (S1 := fun _ => False) (S2 := S) (fun _ h => h.elim) (fun _ h => h) (fun _ h => h.elim) ?_ hs
    generalize List.range m = l
    induction l with
    | nil => trivial
    | cons q l ih => exact ⟨fun _ => False, fun _ => False, fun _ h => h, fun _ h => h, fun _ h => h.elim, trivial, ih⟩
end
section
variable {P : Program} {r : Option Nat} {n : Nat} {ds : List Deferred} {S0 : Nat → Prop} {w0 : World} {G L0 : List Asn} {f0 : Env} {Q : Exit → Act → World → Prop} {ops : Array Oper} {m : Nat} {wrl : List (Nat × Nat)} {prl R : List Nat} {J I : Nat} {A0 : Asn}
def DX (P : Program) (r : Option Nat) (n : Nat) (ds : List Deferred) (S0 : Nat → Prop) (w0 : World) (G : List Asn) (Q : Exit → Act → World → Prop) (ops : Array Oper) (m : Nat) (wrl : List (Nat × Nat)) (prl R : List Nat) (J I : Nat) (A0 : Asn) (L0 : List Asn) (f0 : Env) (j : Nat) (F : Nat → (Nat → Gh) → Value) (C : Nat → (Nat → Gh) → Asn) : Prop :=
  DrawOk ops m (wrOf wrl) (prOf prl) → DRx P r n ds S0 w0 G Q ops m (wrOf wrl) (prOf prl) R J I A0 L0 f0 j (gspec F C j)
def iOk (m J I : Nat) (prl : List Nat) : Bool := Nat.blt J m && (Nat.ble m I || prOf prl J I)
theorem T.drawo (hmix : P.follows .mixedOrders = true) {id : Nat} (m : Nat) (wrl : List (Nat × Nat)) (prl R : List Nat) (J : Nat) (hok : (drawOk ops.toList m wrl prl && iOk m J m prl) = true)
    (h : DX P r n ds S0 w0 G Q ops m wrl prl R J m A0 L0 f0 0 (fun _ _ => undef) (fun _ _ => emp)) : T P r n ds S0 w0 G Q (.region id ops true) (A0 :: L0) f0 := by
  rw [Bool.and_eq_true] at hok
  have hi := hok.2
  simp only [iOk, Bool.and_eq_true] at hi
  exact T.drawX0 (γ := Gh) hmix wrl prl R hok.1 (Nat.le_of_ble_eq_true hi.1) (fun h => absurd h (Nat.lt_irrefl _)) (h (DrawOk.of hok.1))
theorem T.drawn (hmix : P.follows .mixedOrders = true) {id : Nat} (m : Nat) (wrl : List (Nat × Nat)) (prl R : List Nat) (J I : Nat) (hok : (drawOk ops.toList m wrl prl && iOk m J I prl) = true) (hIm : Nat.blt I m = true)
    (h : DX P r n ds S0 w0 G Q ops m wrl prl R J I emp L0 f0 0 (fun _ _ => undef) (fun _ _ => emp)) : T P r n ds S0 w0 G Q (.region id ops true) L0 f0 := by
  rw [Bool.and_eq_true] at hok
  have hi := hok.2
  simp only [iOk, Bool.and_eq_true, Bool.or_eq_true] at hi
  have h1 := T.drawX0 (γ := Gh) (A0 := emp) (id := id) hmix wrl prl R hok.1 (Nat.le_of_ble_eq_true hi.1) (fun hh => hi.2.elim (fun h2 => absurd (Nat.le_of_ble_eq_true h2) (Nat.not_le.2 hh)) (fun h2 => h2)) (h (DrawOk.of hok.1))
  exact fun w hw => h1 w (hw.conv fun S w hs => hs.add trivial)
theorem DX.put {j : Nat} {F : Nat → (Nat → Gh) → Value} {C : Nat → (Nat → Gh) → Asn} {o : Oper} (hj : ops[j]? = some o) (hR : (R.contains j || Nat.beq j J) = false) (v : Value)
    (ho : ∀ (ρ : Nat → Gh) (g : Env) (M : List Asn) (Q' : Exit → Act → World → Prop), TO P r n ds S0 w0 G ops Q' [] (M ++ L0) (put (mixG wrl prl F f0 j ρ g) o.dst v) → TO P r n ds S0 w0 G ops Q' [o] (M ++ L0) (mixG wrl prl F f0 j ρ g))
    (h : DX P r n ds S0 w0 G Q ops m wrl prl R J I A0 L0 f0 (j + 1) (updF F j (fun _ => v)) (updF C j (fun _ => emp))) : DX P r n ds S0 w0 G Q ops m wrl prl R J I A0 L0 f0 j F C := fun hd => by
  rw [Bool.or_eq_false_iff] at hR
  refine DRx.step ⟨fun _ => v, fun _ => emp⟩ (by simp [gspec]) ⟨fun i hi _ _ ρ x => ⟨rfl, rfl⟩, o, hj, .inl ⟨fun e => by have := hR.2; rw [e] at this; simp at this, ?_, by simpa using hR.1, fun _ => rfl⟩⟩ ?_
  · intro ρ g X0 X Q' h'
    rw [mixG_eq hd hj] at h' ⊢
    exact ho ρ g _ Q' h'
  · rw [← gspec_succ]
    exact h hd
theorem DX.new {j : Nat} {F : Nat → (Nat → Gh) → Value} {C : Nat → (Nat → Gh) → Asn} {o : Oper} (hj : ops[j]? = some o) (hR : (R.contains j && !(Nat.beq j J)) = true) (V : Gh → Value) (c : Gh → Asn)
    (ho : ∀ (ρ : Nat → Gh) (g : Env) (M : List Asn) (Q' : Exit → Act → World → Prop), (∀ x : Gh, TO P r n ds S0 w0 G ops Q' [] (c x :: (M ++ L0)) (TL.put (mixG wrl prl F f0 j ρ g) o.dst (V x))) → TO P r n ds S0 w0 G ops Q' [o] (M ++ L0) (mixG wrl prl F f0 j ρ g))
    (h : DX P r n ds S0 w0 G Q ops m wrl prl R J I A0 L0 f0 (j + 1) (updF F j (fun ρ => V (ρ j))) (updF C j (fun ρ => c (ρ j)))) : DX P r n ds S0 w0 G Q ops m wrl prl R J I A0 L0 f0 j F C := fun hd => by
  rw [Bool.and_eq_true] at hR
  have hg : ∀ (ρ : Nat → Gh) (x : Gh), gupd ρ j x j = x := fun ρ x => by simp [gupd]
  refine DRx.step ⟨fun ρ => V (ρ j), fun ρ => c (ρ j)⟩ (by simp [gspec]) ⟨fun i hi hne _ ρ x => ?_, o, hj, .inr (.inl ⟨fun e => by have := hR.2; rw [e] at this; simp at this, ?_, by simpa using hR.1⟩)⟩ ?_
  · have : gupd ρ i x j = ρ j := by simp only [gupd, beq_false (fun e => hne e.symm), _root_.cond_false]
    simp only [this, and_self]
  · intro ρ g X0 X Q' h'
    rw [mixG_eq hd hj] at h' ⊢
    refine ho ρ g _ Q' fun x => ?_
    have := h' x
    simp only [hg] at this
    exact this
  · rw [← gspec_succ]
    exact h hd
theorem DX.rd {j : Nat} {F : Nat → (Nat → Gh) → Value} {C : Nat → (Nat → Gh) → Asn} {o : Oper} {v : Value} (hj : ops.toList[j]? = some o) (hR : (R.contains j || Nat.beq j J) = false) (hg : o.guard = none)
    (ho : ∀ (ρ : Nat → Gh) (g : Env), Reads P G L0 o (ev n (mixG wrl prl F f0 j ρ g)) v)
    (h : DX P r n ds S0 w0 G Q ops m wrl prl R J I A0 L0 f0 (j + 1) (updF F j (fun _ => v)) (updF C j (fun _ => emp))) : DX P r n ds S0 w0 G Q ops m wrl prl R J I A0 L0 f0 j F C :=
  DX.put (by rw [← Array.getElem?_toList]; exact hj) hR v (fun ρ g M Q' h' => TO.read hg (ho ρ g).appR h') h
theorem DX.rdg {j : Nat} {F : Nat → (Nat → Gh) → Value} {C : Nat → (Nat → Gh) → Asn} {d : Option Tmp} {op : Op} {ty : TypeId} {pos : String} {aft : Array Edge} {i s : Nat} {b : Bool} {v : Value} (hj : ops.toList[j]? = some ⟨d, op, ty, pos, aft, some (i, b)⟩) (hR : (R.contains j || Nat.beq j J) = false)
    (hi : (ops.toList[i]?).bind (·.dst) = some s) (hv : ∀ ρ g, ev n (mixG wrl prl F f0 j ρ g) (.tmp s) = .bool b)
    (ho : ∀ (ρ : Nat → Gh) (g : Env), Reads P G L0 ⟨d, op, ty, pos, aft, none⟩ (ev n (mixG wrl prl F f0 j ρ g)) v)
    (h : DX P r n ds S0 w0 G Q ops m wrl prl R J I A0 L0 f0 (j + 1) (updF F j (fun _ => v)) (updF C j (fun _ => emp))) : DX P r n ds S0 w0 G Q ops m wrl prl R J I A0 L0 f0 j F C :=
  DX.put (by rw [← Array.getElem?_toList]; exact hj) hR v (fun ρ g M Q' h' => TO.guard_true hi (hv ρ g) (TO.read rfl (ho ρ g).appR h')) h
theorem DX.off {j : Nat} {F : Nat → (Nat → Gh) → Value} {C : Nat → (Nat → Gh) → Asn} {d : Option Tmp} {op : Op} {ty : TypeId} {pos : String} {aft : Array Edge} {i s : Nat} {b b' : Bool} (hj : ops.toList[j]? = some ⟨d, op, ty, pos, aft, some (i, b)⟩) (hR : (R.contains j || Nat.beq j J) = false)
    (hi : (ops.toList[i]?).bind (·.dst) = some s) (hv : ∀ ρ g, ev n (mixG wrl prl F f0 j ρ g) (.tmp s) = .bool b') (hb : b' ≠ b)
    (h : DX P r n ds S0 w0 G Q ops m wrl prl R J I A0 L0 f0 (j + 1) (updF F j (fun _ => undef)) (updF C j (fun _ => emp))) : DX P r n ds S0 w0 G Q ops m wrl prl R J I A0 L0 f0 j F C :=
  DX.put (by rw [← Array.getElem?_toList]; exact hj) hR undef (fun ρ g M Q' h' => TO.guard_false hi (hv ρ g) hb h') h
theorem DX.fn {j : Nat} {F : Nat → (Nat → Gh) → Value} {C : Nat → (Nat → Gh) → Asn} {d : Option Tmp} {ty : TypeId} {pos : String} {aft : Array Edge} {v : Value} {q : FuncId} {vs : List Value} {asx : Array Operand} {ats : Array TypeId} {G' : List Asn}
    (hj : ops.toList[j]? = some ⟨d, .call ⟨.value (.func q), asx, ats⟩, ty, pos, aft, none⟩) (hR : (R.contains j || Nat.beq j J) = false) (he : Enters P q) (hc : Cv P q vs.toArray G' v) (ha : ∀ ρ g, asx.toList.map (ev n (mixG wrl prl F f0 j ρ g)) = vs) (hG : ∀ X ∈ G', Has G L0 X)
    (h : DX P r n ds S0 w0 G Q ops m wrl prl R J I A0 L0 f0 (j + 1) (updF F j (fun _ => v)) (updF C j (fun _ => emp))) : DX P r n ds S0 w0 G Q ops m wrl prl R J I A0 L0 f0 j F C :=
  DX.put (by rw [← Array.getElem?_toList]; exact hj) hR v (fun ρ g M Q' h' => TO.fn he hc (ha ρ g) (fun X hX => (hG X hX).appR) h') h
theorem DX.fng {j : Nat} {F : Nat → (Nat → Gh) → Value} {C : Nat → (Nat → Gh) → Asn} {d : Option Tmp} {ty : TypeId} {pos : String} {aft : Array Edge} {i s : Nat} {b : Bool} {v : Value} {q : FuncId} {vs : List Value} {asx : Array Operand} {ats : Array TypeId} {G' : List Asn}
    (hj : ops.toList[j]? = some ⟨d, .call ⟨.value (.func q), asx, ats⟩, ty, pos, aft, some (i, b)⟩) (hR : (R.contains j || Nat.beq j J) = false) (hi : (ops.toList[i]?).bind (·.dst) = some s) (hv : ∀ ρ g, ev n (mixG wrl prl F f0 j ρ g) (.tmp s) = .bool b)
    (he : Enters P q) (hc : Cv P q vs.toArray G' v) (ha : ∀ ρ g, asx.toList.map (ev n (mixG wrl prl F f0 j ρ g)) = vs) (hG : ∀ X ∈ G', Has G L0 X)
    (h : DX P r n ds S0 w0 G Q ops m wrl prl R J I A0 L0 f0 (j + 1) (updF F j (fun _ => v)) (updF C j (fun _ => emp))) : DX P r n ds S0 w0 G Q ops m wrl prl R J I A0 L0 f0 j F C :=
  DX.put (by rw [← Array.getElem?_toList]; exact hj) hR v (fun ρ g M Q' h' => TO.guard_true hi (hv ρ g) (TO.fn he hc (ha ρ g) (fun X hX => (hG X hX).appR) h')) h
theorem DX.decide {j : Nat} {F : Nat → (Nat → Gh) → Value} {C : Nat → (Nat → Gh) → Asn} (p : Nat) {t : Bool} (hF : F p = fun _ => .bool t) (h1 : t = true → DX P r n ds S0 w0 G Q ops m wrl prl R J I A0 L0 f0 j (updF F p (fun _ => .bool true)) C) (h2 : t = false → DX P r n ds S0 w0 G Q ops m wrl prl R J I A0 L0 f0 j (updF F p (fun _ => .bool false)) C) :
    DX P r n ds S0 w0 G Q ops m wrl prl R J I A0 L0 f0 j F C := by
  cases t with
  | true => have := h1 rfl; rwa [updF_self hF] at this
  | false => have := h2 rfl; rwa [updF_self hF] at this
theorem DX.decide_ft {j : Nat} {F : Nat → (Nat → Gh) → Value} {C : Nat → (Nat → Gh) → Asn} (p : Nat) {t : Bool} (hF : F p = fun _ => .bool t) (h2 : t = false → DX P r n ds S0 w0 G Q ops m wrl prl R J I A0 L0 f0 j (updF F p (fun _ => .bool false)) C) (h1 : t = true → DX P r n ds S0 w0 G Q ops m wrl prl R J I A0 L0 f0 j (updF F p (fun _ => .bool true)) C) :
    DX P r n ds S0 w0 G Q ops m wrl prl R J I A0 L0 f0 j F C := DX.decide p hF h1 h2
theorem DX.buildS {j : Nat} {F : Nat → (Nat → Gh) → Value} {C : Nat → (Nat → Gh) → Asn} {d : Option Tmp} {ty : TypeId} {pos : String} {aft : Array Edge} {t e sz k : Nat} {ps : Array (Nat × Operand)} {z : Value} {cs : List Value} (hj : ops.toList[j]? = some ⟨d, .buildSlice t k ps, ty, pos, aft, none⟩) (hR : (R.contains j && !(Nat.beq j J)) = true)
    (ht : P.underlying t = some (.slice e)) (hs : ∀ w, (sizeOf e).run P w = .ok sz w) (hz : TyZero P e z) (hsmall : k * sz ≤ 16777216)
    (hfill : ∀ ρ g, fillM (fun i => some (i * sz, sz)) ((List.range (k * sz)).map (z.cells[· % z.cells.size]!)) 0 (ps.toList.map fun p => (p.1, ev n (mixG wrl prl F f0 j ρ g) p.2)) = some cs)
    (h : DX P r n ds S0 w0 G Q ops m wrl prl R J I A0 L0 f0 (j + 1) (updF F j (fun ρ => .slice (some ⟨(ρ j).2, 0, none⟩) k k)) (updF C j (fun ρ => own (ρ j).2 cs.toArray e))) : DX P r n ds S0 w0 G Q ops m wrl prl R J I A0 L0 f0 j F C :=
  DX.new (by rw [← Array.getElem?_toList]; exact hj) hR (fun x => .slice (some ⟨x.2, 0, none⟩) k k) (fun x => own x.2 cs.toArray e) (fun ρ g M Q' h' => TO.buildS ht hs hz hsmall (hfill ρ g) fun b => h' (none, b)) h
theorem DX.alloc {j : Nat} {F : Nat → (Nat → Gh) → Value} {C : Nat → (Nat → Gh) → Asn} {d : Option Tmp} {ty : TypeId} {pos : String} {aft : Array Edge} {t : TypeId} {v : Value} (hj : ops.toList[j]? = some ⟨d, .alloc t, ty, pos, aft, none⟩) (hR : (R.contains j && !(Nat.beq j J)) = true) (hz : TyZero P t v)
    (h : DX P r n ds S0 w0 G Q ops m wrl prl R J I A0 L0 f0 (j + 1) (updF F j (fun ρ => .pointer (some ⟨(ρ j).2, 0, none⟩))) (updF C j (fun ρ => own (ρ j).2 v.cells t))) : DX P r n ds S0 w0 G Q ops m wrl prl R J I A0 L0 f0 j F C :=
  DX.new (by rw [← Array.getElem?_toList]; exact hj) hR (fun x => .pointer (some ⟨x.2, 0, none⟩)) (fun x => own x.2 v.cells t) (fun ρ g M Q' h' => TO.alloc hz fun b => h' (none, b)) h
/-- The store to the piece at hand. -/
theorem DX.sto {F : Nat → (Nat → Gh) → Value} {C : Nat → (Nat → Gh) → Asn} {b o k : Nat} {x y : Operand} {t t' : TypeId} {cells cells' : Array Value} {v : Value} {ty : TypeId} {pos : String} {aft : Array Edge} (hj : ops.toList[J]? = some ⟨none, .store t x y, ty, pos, aft, none⟩) (hR : R.contains J = false)
    (hs : ∀ w, (sizeOf t).run P w = .ok k w) (hx : ∀ ρ g, ev n (mixG wrl prl F f0 J ρ g) x = .pointer (some ⟨b, o, none⟩)) (hy : ∀ ρ g, ev n (mixG wrl prl F f0 J ρ g) y = v) (hk : v.cells.size = k) (hc : over cells o v.cells.toList = cells') (hfit : o + k ≤ cells.size) (h1 : v.cells.toList.all (·.oneCell') = true)
    (h : DX P r n ds S0 w0 G Q ops m wrl prl R J m (own b cells t') L0 f0 (J + 1) (updF F J (fun _ => undef)) (updF C J (fun _ => own b cells' t'))) : DX P r n ds S0 w0 G Q ops m wrl prl R J m (own b cells t') L0 f0 J F C := fun hd => by
  have hj' := hj
  rw [Array.getElem?_toList] at hj'
  refine DRx.step ⟨fun _ => undef, fun _ => own b cells' t'⟩ (by simp [gspec]) ⟨fun i hi _ _ ρ x => ⟨rfl, rfl⟩, _, hj', .inr (.inr ⟨rfl, ?_, by simpa using hR⟩)⟩ ?_
  · intro ρ g X Q' _ h'
    rw [mixG_eq hd hj'] at h' ⊢
    refine TO.store0 hs (hx ρ g) (hy ρ g) hk hc hfit h1 ?_
    have e : (fun p => bif Nat.beq p m then emp else X p) = (fun p => bif Nat.beq p m then emp else X p) := rfl
    have e2 : mixLx (prOf prl) (gspec F C J) L0 m J m J ρ (own b cells' t') (fun p => bif Nat.beq p m then emp else X p) = mixLx (prOf prl) (gspec F C J) L0 m J m J ρ (own b cells' t') X := by
      unfold mixLx
      congr 2
      apply List.map_congr_left
      intro p hp
      have hpm : Nat.beq p m = false := beq_false (by have := List.mem_range.1 hp; omega)
      simp only [hpm, _root_.cond_false]
    rw [e2] at h'
    exact h'
  · rw [← gspec_succ]
    exact h hd
/-- The store to a piece that the region has made. -/
theorem DX.stn {F : Nat → (Nat → Gh) → Value} {C : Nat → (Nat → Gh) → Asn} {k : Nat} {x y : Operand} {t t' : TypeId} {cells cells' : Array Value} {v : Value} {ty : TypeId} {pos : String} {aft : Array Edge} (hj : ops.toList[J]? = some ⟨none, .store t x y, ty, pos, aft, none⟩) (hR : R.contains J = false) (hIJ : Nat.blt I J = true)
    (hIm : Nat.blt I m = true) (hpr : prOf prl J I = true) (hs : ∀ w, (sizeOf t).run P w = .ok k w) (hC : C I = fun ρ => own (ρ I).2 cells t') (hx : ∀ ρ g, ev n (mixG wrl prl F f0 J ρ g) x = .pointer (some ⟨(ρ I).2, 0, none⟩)) (hy : ∀ ρ g, ev n (mixG wrl prl F f0 J ρ g) y = v) (hk : v.cells.size = k) (hc : over cells 0 v.cells.toList = cells') (hfit : k ≤ cells.size) (h1 : v.cells.toList.all (·.oneCell') = true)
    (h : DX P r n ds S0 w0 G Q ops m wrl prl R J I emp L0 f0 (J + 1) (updF F J (fun _ => undef)) (updF C J (fun ρ => own (ρ I).2 cells' t'))) : DX P r n ds S0 w0 G Q ops m wrl prl R J I emp L0 f0 J F C := fun hd => by
  have hj' := hj
  rw [Array.getElem?_toList] at hj'
  have hI1 : I < J := Nat.le_of_ble_eq_true hIJ
  have hI2 : I < m := Nat.le_of_ble_eq_true hIm
  refine DRx.step ⟨fun _ => undef, fun ρ => own (ρ I).2 cells' t'⟩ (by simp [gspec]) ⟨fun i hi hne hpi ρ x => ?_, _, hj', .inr (.inr ⟨rfl, ?_, by simpa using hR⟩)⟩ ?_
  · have hiI : I ≠ i := fun e => by rw [← e, hpr] at hpi; cases hpi
    have : gupd ρ i x I = ρ I := by simp only [gupd, beq_false hiI, _root_.cond_false]
    simp only [this, and_self]
  · intro ρ g X Q' hXI h'
    rw [mixG_eq hd hj'] at h' ⊢
    have hXI' : X I = own (ρ I).2 cells t' := by rw [hXI hI2, gspec_get F C hI1]; show C I ρ = _; rw [hC]
    have hget : (mixLx (prOf prl) (gspec F C J) L0 m J I J ρ emp X)[I + 1]? = some (own (ρ I).2 cells t') := by
      unfold mixLx
      rw [List.cons_append, List.getElem?_cons_succ, List.getElem?_append_left (by simpa using hI2)]
      simp only [List.getElem?_map, List.getElem?_range hI2, Option.map_some]
      rw [show Nat.beq I I = true from by simp, Bool.not_true, Bool.and_false, _root_.cond_false, hXI']
    refine TO.store (I + 1) hs (hx ρ g) (hy ρ g) hk hget hc (by omega) (fun u hu => List.all_eq_true.1 h1 u hu) rfl ?_
    refine h'.conv fun S w hs' => ?_
    unfold mixLx at hs' ⊢
    rw [List.cons_append, List.set_cons_succ] at hs'
    have hlt : I < ((List.range m).map (fun p => bif (prOf prl J p && !(Nat.beq p J) && !(Nat.beq p I)) then ((gspec F C J).getD p dspec).c ρ else X p)).length := by simpa using hI2
    have h2 := seps_take I (A := own (ρ I).2 cells' t') (by rw [List.getElem?_set]; simp only [if_true, List.length_append]; rw [if_pos (by omega)]) hs'
    rw [List.set_set, List.set_append_left _ _ hlt] at h2
    rw [List.cons_append]
    have e4 : ((List.range m).map (fun p => bif (prOf prl J p && !(Nat.beq p J) && !(Nat.beq p I)) then ((gspec F C J).getD p dspec).c ρ else X p)).set I emp = (List.range m).map (fun p => bif (prOf prl J p && !(Nat.beq p J) && !(Nat.beq p I)) then ((gspec F C J).getD p dspec).c ρ else bif Nat.beq p I then emp else X p) := by
      apply List.ext_getElem?
      intro q
      by_cases hq : q < m
      · by_cases e : q = I
        · subst e
          rw [List.getElem?_set]
          simp only [if_true, List.length_map, List.length_range, hq, List.getElem?_map, List.getElem?_range hq, Option.map_some]
          rw [show Nat.beq q q = true from by simp, Bool.not_true, Bool.and_false, _root_.cond_false, _root_.cond_true]
        · rw [List.getElem?_set_ne (fun h => e h.symm)]
          simp only [List.getElem?_map, List.getElem?_range hq, Option.map_some, beq_false e, _root_.cond_false]
      · simp [hq]
    rw [e4] at h2
    exact h2
  · rw [← gspec_succ]
    exact h hd
theorem DX.done {F : Nat → (Nat → Gh) → Value} {C : Nat → (Nat → Gh) → Asn} {l : List Oper} (R' : List Nat) (hl : ops.toList.drop m = l) (hJ : Nat.blt J m = true) (hn : R'.Nodup) (hR : R'.all (fun j => Nat.blt j m && (!(Nat.beq j J) && !(Nat.beq j I))) = true) (h : ∀ ρ : Nat → Gh, TO P r n ds S0 w0 G ops Q l (C J ρ :: (R'.map (fun j => C j ρ) ++ L0)) (allG wrl F f0 ρ)) : DX P r n ds S0 w0 G Q ops m wrl prl R J I A0 L0 f0 m F C := fun hd => by
  refine DRx.done (by simp [gspec]) fun ρ => ?_
  have e : fullE (wrOf wrl) (gspec F C m) f0 ρ = allG wrl F f0 ρ := by
    funext t
    simp only [fullE, allG, wrL_eq]
    cases hw : wrOf wrl t with
    | none => rfl
    | some p => simp only; rw [gspec_get F C (hd.wrm t p hw).1]
  rw [e, hl]
  refine (h ρ).conv fun S w hs => ?_
  unfold fullLx at hs
  rw [gspec_get F C (Nat.le_of_ble_eq_true hJ)] at hs
  refine seps_under (fun S w hs => ?_) hs
  obtain ⟨S1, S2, h1, h2, h3, h4, h5⟩ := hs.split
  refine Seps.app h1 h2 h3 ?_ h5
  have := h4.sel hn
  have e2 : sel R' ((List.range m).map fun p => bif (!(Nat.beq p J) && !(Nat.beq p I)) then ((gspec F C m).getD p dspec).c ρ else emp) = R'.map fun j => C j ρ := by
    unfold sel
    apply List.map_congr_left
    intro j hj
    have h6 := List.all_eq_true.1 hR j hj
    rw [Bool.and_eq_true] at h6
    have hlt : j < m := Nat.le_of_ble_eq_true h6.1
    simp only [List.getD_eq_getElem?_getD, List.getElem?_map, List.getElem?_range, hlt, if_true, Option.map_some, Option.getD_some, h6.2, _root_.cond_true]
    have := gspec_get F C hlt
    simp only [List.getD_eq_getElem?_getD] at this
    rw [this]
  rw [e2] at this
  exact this
end
end Go.TL
end
