/- The tied card of WishTextsMatchReference: whatever the input, the law returns true, and each argument reads behind the call as it did. No condition beyond the card's own. -/
import Derived.Test.YtlcbpicpociipaaGreatDoorB4
import Derived.Test.YtlcbpicpociipaaGreatDoorProg
section
set_option linter.unusedVariables false
set_option linter.unusedSimpArgs false
set_option maxRecDepth 100000
set_option maxHeartbeats 800000
namespace Go.Proofs
open Go.TL
attribute [local irreducible] Go.TL.T Go.TL.TO Go.TL.TQ
theorem c_wish_Why (A : Option Addr) (cap n : Nat) (ks : List Bytes) (hn : n = ks.length) (w : Wish) (B : Option Addr) (capb m : Nat) (l : List Proxy) (hm : m = l.length) (nu t : Int) (hksl : ks.length ≤ 4611686018427387904) (hll : l.length ≤ 4611686018427387904) : Cv Tryz.prog 13 #[.slice A n cap, wishV w, .slice B m capb, .int .i64 nu, .int .i64 t] [glob 0 roundC 162, slc eStr 1 A ks, slc proxyL 7 B l] (.tuple #[.int .i64 (whyOf ks w l nu t).1, .int .i64 (whyOf ks w l nu t).2]) := by
 subst hn hm
 refine Ctr.introM Tryz.func13 rfl Tryz.ntmps13 (Nat.le_of_ble_eq_true rfl) fun S0 w0 => ?_
 refine T.seq (T.region ?_)
 refine TO.box (v := .agg #[.int _ _, .int _ _, .int _ _, .int _ _, .int _ _, .int _ _, .int _ _, .int _ _, .string _]) rfl (fun b1 => ?_)
 refine TO.box (v := .slice _ _ _) rfl (fun b2 => ?_)
 refine TO.alloc Tryz.zero3 (fun b3 => ?_)
 refine TO.alloc Tryz.zero3 (fun b4 => ?_)
 refine TO.nil (TQ.then_normal (T.seq (T.region ?_)))
 refine rdx (rd_assign (v := .func _ _ _) rfl) ?_
 refine TO.nil (TQ.then_normal (T.seq (T.seq (T.region ?_))))
 refine rdx (rd_move (v := .slice _ _ _) rfl) ?_
 refine rdx (rd_lensl Tryz.under32 rfl) ?_
 refine rdx (rd_gtr rfl rfl) ?_
 refine rdx (rd_move (v := .bool _) rfl) ?_
 refine TO.decide (s := 23) rfl (fun h5 => ?_) (fun h5 => ?_)
 ·try simp only [nrm] at h5
  refine TO.guard_false (s := 23) (b' := true) rfl rfl nofun ?_
  refine TO.guard_false (s := 23) (b' := true) rfl rfl nofun ?_
  refine TO.guard_false (s := 23) (b' := true) rfl rfl nofun ?_
  refine rdx (rd_pick_true (v := .bool _) rfl rfl) ?_
  refine rdx (rd_move (v := .bool _) rfl) ?_
  refine TO.guard_false (s := 28) (b' := true) rfl rfl nofun ?_
  refine TO.guard_false (s := 28) (b' := true) rfl rfl nofun ?_
  refine TO.guard_false (s := 28) (b' := true) rfl rfl nofun ?_
  refine rdx (rd_pick_true (v := .bool _) rfl rfl) ?_
  refine rdx (rd_move (v := .bool _) rfl) ?_
  refine TO.guard_false (s := 33) (b' := true) rfl rfl nofun ?_
  refine TO.guard_false (s := 33) (b' := true) rfl rfl nofun ?_
  refine TO.guard_false (s := 33) (b' := true) rfl rfl nofun ?_
  refine rdx (rd_pick_true (v := .bool _) rfl rfl) ?_
  refine TO.nil (TQ.then_normal ?_)
  refine T.cond_true rfl ?_
  refine T.seq (T.region ?_)
  refine TO.front1 ?_
  refine TO.store0 (cells' := #[.int _ _]) Tryz.size3 rfl (v := .int _ _) rfl rfl rfl (Nat.le_of_ble_eq_true rfl) rfl ?_
  refine TO.front1 ?_
  refine TO.store0 (cells' := #[.int _ _]) Tryz.size3 rfl (v := .int _ _) rfl rfl rfl (Nat.le_of_ble_eq_true rfl) rfl ?_
  refine TO.nil (TQ.then_normal (T.ret (TQ.then_ret ?_)))
  refine TQ.valueN ?_ (res2 Tryz.results13 (Res.cell (v := .int _ _) Tryz.one3 rfl (Has.own 1 rfl) rfl) (Res.cell (v := .int _ _) Tryz.one3 rfl (Has.own 0 rfl) rfl)) _ (.inl rfl)
  exact tup2 (by rw [whyOf, if_pos (.inl (by omega))])
 try simp only [nrm] at h5
 refine TO.guard_true (s := 23) rfl rfl ?_
 refine rdx (rd_move (v := .slice _ _ _) rfl) ?_
 refine TO.guard_true (s := 23) rfl rfl ?_
 refine rdx (rd_move (v := .func _ _ _) rfl) ?_
 refine TO.guard_true (s := 23) rfl rfl ?_
 refine TO.fn Tryz.enters44 (c_ContainsFuncS _ _ _ ks (by first | rfl | simp | omega) _ (fun x => !(x.length == 32)) Tryz.enters42 (fun x => c_Why1 x) (by first | omega | simp)) rfl (ReadsC (Has.arg 1 rfl) Reads0) ?_
 refine rdx (rd_pick_false (v := .bool _) rfl rfl) ?_
 refine rdx (rd_move (v := .bool _) rfl) ?_
 refine TO.decide (s := 28) rfl (fun h6 => ?_) (fun h6 => ?_)
 ·try simp only [nrm] at h6
  refine TO.guard_false (s := 28) (b' := true) rfl rfl nofun ?_
  refine TO.guard_false (s := 28) (b' := true) rfl rfl nofun ?_
  refine TO.guard_false (s := 28) (b' := true) rfl rfl nofun ?_
  refine rdx (rd_pick_true (v := .bool _) rfl rfl) ?_
  refine rdx (rd_move (v := .bool _) rfl) ?_
  refine TO.guard_false (s := 33) (b' := true) rfl rfl nofun ?_
  refine TO.guard_false (s := 33) (b' := true) rfl rfl nofun ?_
  refine TO.guard_false (s := 33) (b' := true) rfl rfl nofun ?_
  refine rdx (rd_pick_true (v := .bool _) rfl rfl) ?_
  refine TO.nil (TQ.then_normal ?_)
  refine T.cond_true rfl ?_
  refine T.seq (T.region ?_)
  refine TO.front1 ?_
  refine TO.store0 (cells' := #[.int _ _]) Tryz.size3 rfl (v := .int _ _) rfl rfl rfl (Nat.le_of_ble_eq_true rfl) rfl ?_
  refine TO.front1 ?_
  refine TO.store0 (cells' := #[.int _ _]) Tryz.size3 rfl (v := .int _ _) rfl rfl rfl (Nat.le_of_ble_eq_true rfl) rfl ?_
  refine TO.nil (TQ.then_normal (T.ret (TQ.then_ret ?_)))
  refine TQ.valueN ?_ (res2 Tryz.results13 (Res.cell (v := .int _ _) Tryz.one3 rfl (Has.own 1 rfl) rfl) (Res.cell (v := .int _ _) Tryz.one3 rfl (Has.own 0 rfl) rfl)) _ (.inl rfl)
  exact tup2 (by rw [whyOf, if_pos (.inr (.inr (.inr (fun e => absurd (ixInt_neg.2 e) (Int.not_lt.2 h6)))))])
 try simp only [nrm] at h6
 refine TO.guard_true (s := 28) rfl rfl ?_
 refine rdx (rd_load_agg (cs := #[.int _ _, .int _ _, .int _ _, .int _ _, .int _ _, .int _ _, .int _ _, .int _ _, .string _]) Tryz.agg30 rfl (Has.own 3 rfl) rfl rfl) ?_
 refine TO.guard_true (s := 28) rfl rfl ?_
 refine TO.fn Tryz.enters45 (c_wish_isWish _) rfl Reads0 ?_
 refine TO.guard_true (s := 28) rfl rfl ?_
 refine rdx (rd_not rfl) ?_
 refine rdx (rd_pick_false (v := .bool _) rfl rfl) ?_
 refine rdx (rd_move (v := .bool _) rfl) ?_
 refine TO.decide (s := 33) rfl (fun h7 => ?_) (fun h7 => ?_)
 ·try simp only [nrm] at h7
  refine TO.guard_false (s := 33) (b' := true) rfl rfl nofun ?_
  refine TO.guard_false (s := 33) (b' := true) rfl rfl nofun ?_
  refine TO.guard_false (s := 33) (b' := true) rfl rfl nofun ?_
  refine rdx (rd_pick_true (v := .bool _) rfl rfl) ?_
  refine TO.nil (TQ.then_normal ?_)
  refine T.cond_true rfl ?_
  refine T.seq (T.region ?_)
  refine TO.front1 ?_
  refine TO.store0 (cells' := #[.int _ _]) Tryz.size3 rfl (v := .int _ _) rfl rfl rfl (Nat.le_of_ble_eq_true rfl) rfl ?_
  refine TO.front1 ?_
  refine TO.store0 (cells' := #[.int _ _]) Tryz.size3 rfl (v := .int _ _) rfl rfl rfl (Nat.le_of_ble_eq_true rfl) rfl ?_
  refine TO.nil (TQ.then_normal (T.ret (TQ.then_ret ?_)))
  refine TQ.valueN ?_ (res2 Tryz.results13 (Res.cell (v := .int _ _) Tryz.one3 rfl (Has.own 1 rfl) rfl) (Res.cell (v := .int _ _) Tryz.one3 rfl (Has.own 0 rfl) rfl)) _ (.inl rfl)
  exact tup2 (by rw [whyOf, if_pos (.inr (.inl (by simp_all)))])
 try simp only [nrm] at h7
 refine TO.guard_true (s := 33) rfl rfl ?_
 refine rdx (rd_load (v := .slice _ _ _) Tryz.one31 rfl (Has.own 2 rfl) rfl) ?_
 refine TO.guard_true (s := 33) rfl rfl ?_
 refine rdx (rd_lensl Tryz.under31 rfl) ?_
 refine TO.guard_true (s := 33) rfl rfl ?_
 refine rdx (rd_gtr rfl rfl) ?_
 refine rdx (rd_pick_false (v := .bool _) rfl rfl) ?_
 refine TO.nil (TQ.then_normal ?_)
 refine T.cond rfl (fun h8 => ?_) (fun h8 => ?_)
 ·try simp only [nrm] at h8
  refine T.seq (T.region ?_)
  refine TO.front1 ?_
  refine TO.store0 (cells' := #[.int _ _]) Tryz.size3 rfl (v := .int _ _) rfl rfl rfl (Nat.le_of_ble_eq_true rfl) rfl ?_
  refine TO.front1 ?_
  refine TO.store0 (cells' := #[.int _ _]) Tryz.size3 rfl (v := .int _ _) rfl rfl rfl (Nat.le_of_ble_eq_true rfl) rfl ?_
  refine TO.nil (TQ.then_normal (T.ret (TQ.then_ret ?_)))
  refine TQ.valueN ?_ (res2 Tryz.results13 (Res.cell (v := .int _ _) Tryz.one3 rfl (Has.own 1 rfl) rfl) (Res.cell (v := .int _ _) Tryz.one3 rfl (Has.own 0 rfl) rfl)) _ (.inl rfl)
  exact tup2 (by rw [whyOf, if_pos (.inr (.inr (.inl (by omega))))])
 try simp only [nrm] at h8
 refine T.skip (TQ.then_normal (T.seq (T.seq (T.region ?_))))
 refine rdx (rd_load (v := .slice _ _ _) Tryz.one31 rfl (Has.own 2 rfl) rfl) ?_
 have ek : firstIx (keyP ks) ks.length = none := ixInt_neg.1 h6
 have e0 : ¬ (64 < ks.length ∨ wishOk w = false ∨ 4 < l.length ∨ firstIx (keyP ks) ks.length ≠ none) := by rintro (h' | h' | h' | h') <;> first | omega | (simp_all; done) | exact h' ek
 have hwb := wishOk_bounds (w := w) (by simp_all)
 refine TO.fn Tryz.enters46 (c_badProxy _ _ _ l (by first | rfl | simp | omega) (by first | omega | assumption)) rfl (ReadsC (Has.arg 2 rfl) Reads0) ?_
 refine rdx (rd_assign (v := .int _ _) rfl) ?_
 refine TO.nil (TQ.then_normal (T.seq (T.region ?_)))
 refine rdx (rd_move (v := .int _ _) rfl) ?_
 refine rdx (rd_geq rfl rfl) ?_
 refine TO.nil (TQ.then_normal ?_)
 refine T.cond rfl (fun h9 => ?_) (fun h9 => ?_)
 ·try simp only [nrm] at h9
  refine T.seq (T.region ?_)
  refine rdx (rd_move (v := .int _ _) rfl) ?_
  refine TO.front1 ?_
  refine TO.store0 (cells' := #[.int _ _]) Tryz.size3 rfl (v := .int _ _) rfl rfl rfl (Nat.le_of_ble_eq_true rfl) rfl ?_
  refine TO.front1 ?_
  refine TO.store0 (cells' := #[.int _ _]) Tryz.size3 rfl (v := .int _ _) rfl rfl rfl (Nat.le_of_ble_eq_true rfl) rfl ?_
  refine TO.nil (TQ.then_normal (T.ret (TQ.then_ret ?_)))
  refine TQ.valueN ?_ (res2 Tryz.results13 (Res.cell (v := .int _ _) Tryz.one3 rfl (Has.own 1 rfl) rfl) (Res.cell (v := .int _ _) Tryz.one3 rfl (Has.own 0 rfl) rfl)) _ (.inl rfl)
  exact tup2 (by rw [whyOf, if_neg e0, oneOr_ix h9])
 try simp only [nrm] at h9
 refine T.skip (TQ.then_normal (T.seq (T.seq (T.region ?_))))
 refine rdx (rd_move (v := .int _ _) rfl) ?_
 have e1 : firstIx (formP l) l.length = none := ixInt_neg.1 h9
 refine rdx (rd_fieldAddr Tryz.field30_5 rfl) ?_
 refine rdx (rd_fieldAddr Tryz.field28_0 rfl) ?_
 refine rdx (rd_load (v := .int _ _) Tryz.one3 rfl (Has.own 3 rfl) rfl) ?_
 refine rdx (rd_fieldAddr Tryz.field30_5 rfl) ?_
 refine rdx (rd_fieldAddr Tryz.field28_1 rfl) ?_
 refine rdx (rd_load (v := .int _ _) Tryz.one3 rfl (Has.own 3 rfl) rfl) ?_
 refine rdx (rd_sub rfl rfl (w64 (by omega) (by omega))) ?_
 refine TO.fn Tryz.enters47 (c_wish_isWithin _ _ _) rfl Reads0 ?_
 refine rdx (rd_not rfl) ?_
 refine TO.nil (TQ.then_normal ?_)
 refine T.cond rfl (fun h10 => ?_) (fun h10 => ?_)
 ·try simp only [nrm] at h10
  refine T.seq (T.region ?_)
  refine TO.front1 ?_
  refine TO.store0 (cells' := #[.int _ _]) Tryz.size3 rfl (v := .int _ _) rfl rfl rfl (Nat.le_of_ble_eq_true rfl) rfl ?_
  refine TO.front1 ?_
  refine TO.store0 (cells' := #[.int _ _]) Tryz.size3 rfl (v := .int _ _) rfl rfl rfl (Nat.le_of_ble_eq_true rfl) rfl ?_
  refine TO.nil (TQ.then_normal (T.ret (TQ.then_ret ?_)))
  refine TQ.valueN ?_ (res2 Tryz.results13 (Res.cell (v := .int _ _) Tryz.one3 rfl (Has.own 1 rfl) rfl) (Res.cell (v := .int _ _) Tryz.one3 rfl (Has.own 0 rfl) rfl)) _ (.inl rfl)
  exact tup2 (by rw [whyOf, if_neg e0, e1, oneOr_none, if_pos (by have hq := h10; simp only [within, Bool.and_eq_false_iff, decide_eq_false_iff_not] at hq; omega)])
 try simp only [nrm] at h10
 refine T.skip (TQ.then_normal (T.seq (T.seq (T.region ?_))))
 refine rdx (rd_move (v := .int _ _) rfl) ?_
 have ht0 := h10
 simp only [within, Bool.and_eq_true, decide_eq_true_eq] at ht0
 refine rdx (rd_fieldAddr Tryz.field30_2 rfl) ?_
 refine rdx (rd_fieldAddr Tryz.field27_0 rfl) ?_
 refine rdx (rd_load (v := .int _ _) Tryz.one3 rfl (Has.own 3 rfl) rfl) ?_
 refine rdx (rd_fieldAddr Tryz.field30_2 rfl) ?_
 refine rdx (rd_fieldAddr Tryz.field27_1 rfl) ?_
 refine rdx (rd_load (v := .int _ _) Tryz.one3 rfl (Has.own 3 rfl) rfl) ?_
 refine rdx (rd_sub rfl rfl (w64 (by omega) (by omega))) ?_
 refine TO.fn Tryz.enters47 (c_wish_isWithin _ _ _) rfl Reads0 ?_
 refine rdx (rd_not rfl) ?_
 refine TO.nil (TQ.then_normal ?_)
 refine T.cond rfl (fun h11 => ?_) (fun h11 => ?_)
 ·try simp only [nrm] at h11
  refine T.seq (T.region ?_)
  refine TO.front1 ?_
  refine TO.store0 (cells' := #[.int _ _]) Tryz.size3 rfl (v := .int _ _) rfl rfl rfl (Nat.le_of_ble_eq_true rfl) rfl ?_
  refine TO.front1 ?_
  refine TO.store0 (cells' := #[.int _ _]) Tryz.size3 rfl (v := .int _ _) rfl rfl rfl (Nat.le_of_ble_eq_true rfl) rfl ?_
  refine TO.nil (TQ.then_normal (T.ret (TQ.then_ret ?_)))
  refine TQ.valueN ?_ (res2 Tryz.results13 (Res.cell (v := .int _ _) Tryz.one3 rfl (Has.own 1 rfl) rfl) (Res.cell (v := .int _ _) Tryz.one3 rfl (Has.own 0 rfl) rfl)) _ (.inl rfl)
  exact tup2 (by rw [whyOf, if_neg e0, e1, oneOr_none, if_neg (show ¬ (t < w.slo ∨ w.shi ≤ t) by omega), if_pos (by have hq := h11; simp only [within, Bool.and_eq_false_iff, decide_eq_false_iff_not] at hq; omega)])
 try simp only [nrm] at h11
 refine T.skip (TQ.then_normal (T.seq (T.seq (T.region ?_))))
 refine rdx (rd_fieldAddr Tryz.field30_1 rfl) ?_
 have hn0 := h11
 simp only [within, Bool.and_eq_true, decide_eq_true_eq] at hn0
 refine rdx (rd_load (v := .int _ _) Tryz.one3 rfl (Has.own 3 rfl) rfl) ?_
 refine rdx (rd_load (v := .slice _ _ _) Tryz.one31 rfl (Has.own 2 rfl) rfl) ?_
 refine TO.fnx Tryz.enters48 (c_persons _ _ _ _) rfl Reads0 (fun ⟨b112, b213⟩ hx14 => ?_)
 refine TO.nil (TQ.then_normal (T.block ?_))
 refine T.front4 ?_
 refine T.front5 ?_
 refine T.front4 ?_
 refine T.front5 ?_
 refine T.range1 (fun k (u : Unit) => okTo (chainP w.holder l) (min k l.length) ∧ (l.length < k → w.signer = whoAt w.holder l l.length)) (fun k (u : Unit) => [own b3 #[.int .i64 0] 3, own b4 #[.int .i64 0] 3, own b1 (wishC w) 30, own b2 #[.slice B l.length capb] 31]) (fun (y : Int) => StopC w l y) (fun _ => .ret) (fun (y : Int) => [own b3 #[.int .i64 4] 3, own b4 #[.int .i64 y] 3, own b1 (wishC w) 30, own b2 #[.slice B l.length capb] 31]) (()) rfl Tryz.enters85 (c_persons1 _ _ w.holder _ _ l (by omega)) (fun _ _ h => h) (ReadsC (Has.own 0 rfl) (ReadsC (Has.own 1 rfl) (ReadsC (Has.arg 2 rfl) Reads0))) (fun _ => rfl) (⟨by rw [Nat.zero_min]; exact okTo.zero _, fun h => absurd h (Nat.not_lt_zero _)⟩) (fun l0 b0 k u S1 w1 hk hx => ?_) (fun D u hx => ?_) (fun D y hy => ?_)
 ·obtain ⟨hc1, hc2⟩ := hx
  rcases Nat.lt_or_ge k l.length with hk1 | hk1
  ·rw [perEl_lt hk1]
   refine T.seq (T.region ?_)
   refine rdx (rd_assign (v := .int _ _) rfl) ?_
   refine TO.nil (TQ.then_normal (T.region ?_))
   refine rdx (rd_assign (v := .int _ _) rfl) ?_
   refine TO.nil ?_
   refine TQ.begin_ ?_
   refine T.block (T.seq (T.region ?_))
   refine rdx (rd_move (v := .int _ _) rfl) ?_
   refine rdx (rd_geq_true rfl rfl (by omega)) ?_
   refine rdx (rd_move (v := .bool _) rfl) ?_
   refine TO.guard_true (s := 71) rfl rfl ?_
   refine rdx (rd_load (v := .slice _ _ _) Tryz.one31 rfl (Has.own 4 rfl) rfl) ?_
   refine TO.guard_true (s := 71) rfl rfl ?_
   refine rdx (rd_move (v := .int _ _) rfl) ?_
   refine TO.guard_true (s := 71) rfl rfl ?_
   refine rdx (rd_ix (k := k) Tryz.under31 Tryz.size40 rfl rfl (Has.arg 2 rfl) rfl (by omega) (by omega)) ?_
   refine TO.guard_true (s := 71) rfl rfl ?_
   refine rdx (rd_ixf Tryz.field40_0 rfl (Has.arg 2 rfl) (by omega)) ?_
   refine TO.guard_true (s := 71) rfl rfl ?_
   refine rdx (rd_el (v := .int _ _) k 0 Tryz.one3 rfl (Has.arg 2 rfl) rfl (by omega) (Nat.le_of_ble_eq_true rfl) rfl) ?_
   refine TO.guard_true (s := 71) rfl rfl ?_
   refine rdx (rd_move (v := .int _ _) rfl) ?_
   refine TO.guard_true (s := 71) rfl rfl ?_
   refine rdx (rd_neq rfl rfl) ?_
   refine rdx (rd_pick_true (v := .bool _) rfl rfl) ?_
   refine rdx (rd_move (v := .bool _) rfl) ?_
   refine TO.decide_ft (s := 80) rfl (fun h17 => ?_) (fun h17 => ?_)
   ·try simp only [nrm] at h17
    refine TO.guard_true (s := 80) rfl rfl ?_
    refine rdx (rd_move (v := .int _ _) rfl) ?_
    refine TO.guard_true (s := 80) rfl rfl ?_
    refine rdx (rd_lss_false rfl rfl (by omega)) ?_
    refine TO.guard_true (s := 80) rfl rfl ?_
    refine rdx (rd_move (v := .bool _) rfl) ?_
    refine TO.guard_false (s := 83) (b' := false) rfl rfl nofun ?_
    refine TO.guard_false (s := 83) (b' := false) rfl rfl nofun ?_
    refine TO.guard_false (s := 83) (b' := false) rfl rfl nofun ?_
    refine TO.guard_false (s := 83) (b' := false) rfl rfl nofun ?_
    refine TO.guard_true (s := 80) rfl rfl ?_
    refine rdx (rd_pick_false (v := .bool _) rfl rfl) ?_
    refine rdx (rd_pick_false (v := .bool _) rfl rfl) ?_
    refine TO.nil (TQ.then_normal ?_)
    refine T.cond_false rfl ?_
    refine T.skip (TQ.block_normal ?_)
    refine TQ.rend (()) ?_ (fun _ _ h => h)
    ·try dsimp only
     first | exact ⟨chain_next1 hc1 hk1 (by rw [chainP, getD_get _ hk1]; simp_all), fun h => by omega⟩ | exact ⟨chain_next2 hc1 (by omega), fun _ => by rw [show l.length = k by omega]; simp_all⟩
   try simp only [nrm] at h17
   refine TO.guard_false (s := 80) (b' := true) rfl rfl nofun ?_
   refine TO.guard_false (s := 80) (b' := true) rfl rfl nofun ?_
   refine TO.guard_false (s := 80) (b' := true) rfl rfl nofun ?_
   refine TO.guard_off (s := 83) rfl rfl ?_
   refine TO.guard_off (s := 83) rfl rfl ?_
   refine TO.guard_off (s := 83) rfl rfl ?_
   refine TO.guard_off (s := 83) rfl rfl ?_
   refine TO.guard_false (s := 80) (b' := true) rfl rfl nofun ?_
   refine rdx (rd_pick_true (v := .bool _) rfl rfl) ?_
   refine TO.nil (TQ.then_normal ?_)
   refine T.cond_true rfl ?_
   refine T.seq (T.region ?_)
   refine rdx (rd_move (v := .int _ _) rfl) ?_
   refine TO.front1 ?_
   refine TO.store0 (cells' := #[.int _ _]) Tryz.size3 rfl (v := .int _ _) rfl rfl rfl (Nat.le_of_ble_eq_true rfl) rfl ?_
   refine TO.front2 ?_
   refine TO.store0 (cells' := #[.int _ _]) Tryz.size3 rfl (v := .int _ _) rfl rfl rfl (Nat.le_of_ble_eq_true rfl) rfl ?_
   refine TO.nil (TQ.then_normal (T.ret (TQ.block_ret ?_)))
   refine TQ.rleave (.inl ⟨rfl, rfl⟩) ((k : Int)) ?_ rfl (fun _ _ h => h.sel (js := [2, 1, 0, 3, 4]) (by decide))
   ·try dsimp only
    first | exact .inl ⟨k, hk1, by rwa [Nat.min_eq_left (by omega)] at hc1, by rw [chainP, getD_get _ hk1]; simp_all, rfl⟩ | exact .inr ⟨by rwa [Nat.min_eq_right (by omega)] at hc1, by rw [show l.length = k by omega]; simp_all, rfl⟩
  ·rw [perEl_end (show k = l.length by omega)]
   refine T.seq (T.region ?_)
   refine rdx (rd_assign (v := .int _ _) rfl) ?_
   refine TO.nil (TQ.then_normal (T.region ?_))
   refine rdx (rd_assign (v := .int _ _) rfl) ?_
   refine TO.nil ?_
   refine TQ.begin_ ?_
   refine T.block (T.seq (T.region ?_))
   refine rdx (rd_move (v := .int _ _) rfl) ?_
   refine rdx (rd_geq_false rfl rfl (by omega)) ?_
   refine rdx (rd_move (v := .bool _) rfl) ?_
   refine TO.guard_false (s := 71) (b' := false) rfl rfl nofun ?_
   refine TO.guard_false (s := 71) (b' := false) rfl rfl nofun ?_
   refine TO.guard_false (s := 71) (b' := false) rfl rfl nofun ?_
   refine TO.guard_false (s := 71) (b' := false) rfl rfl nofun ?_
   refine TO.guard_false (s := 71) (b' := false) rfl rfl nofun ?_
   refine TO.guard_false (s := 71) (b' := false) rfl rfl nofun ?_
   refine TO.guard_false (s := 71) (b' := false) rfl rfl nofun ?_
   refine rdx (rd_pick_false (v := .bool _) rfl rfl) ?_
   refine rdx (rd_move (v := .bool _) rfl) ?_
   refine TO.guard_true (s := 80) rfl rfl ?_
   refine rdx (rd_move (v := .int _ _) rfl) ?_
   refine TO.guard_true (s := 80) rfl rfl ?_
   refine rdx (rd_lss_true rfl rfl (by omega)) ?_
   refine TO.guard_true (s := 80) rfl rfl ?_
   refine rdx (rd_move (v := .bool _) rfl) ?_
   refine TO.guard_true (s := 83) rfl rfl ?_
   refine rdx (rd_fieldAddr Tryz.field30_0 rfl) ?_
   refine TO.guard_true (s := 83) rfl rfl ?_
   refine rdx (rd_load (v := .int _ _) Tryz.one3 rfl (Has.own 3 rfl) rfl) ?_
   refine TO.guard_true (s := 83) rfl rfl ?_
   refine rdx (rd_move (v := .int _ _) rfl) ?_
   refine TO.guard_true (s := 83) rfl rfl ?_
   refine rdx (rd_neq rfl rfl) ?_
   refine TO.guard_true (s := 80) rfl rfl ?_
   refine rdx (rd_pick_true (v := .bool _) rfl rfl) ?_
   refine rdx (rd_pick_false (v := .bool _) rfl rfl) ?_
   refine TO.nil (TQ.then_normal ?_)
   refine T.cond_ft rfl (fun h18 => ?_) (fun h18 => ?_)
   ·try simp only [nrm] at h18
    refine T.skip (TQ.block_normal ?_)
    refine TQ.rend (()) ?_ (fun _ _ h => h)
    ·try dsimp only
     first | exact ⟨chain_next1 hc1 hk1 (by rw [chainP, getD_get _ hk1]; simp_all), fun h => by omega⟩ | exact ⟨chain_next2 hc1 (by omega), fun _ => by rw [show l.length = k by omega]; simp_all⟩
   try simp only [nrm] at h18
   refine T.seq (T.region ?_)
   refine rdx (rd_move (v := .int _ _) rfl) ?_
   refine TO.front1 ?_
   refine TO.store0 (cells' := #[.int _ _]) Tryz.size3 rfl (v := .int _ _) rfl rfl rfl (Nat.le_of_ble_eq_true rfl) rfl ?_
   refine TO.front2 ?_
   refine TO.store0 (cells' := #[.int _ _]) Tryz.size3 rfl (v := .int _ _) rfl rfl rfl (Nat.le_of_ble_eq_true rfl) rfl ?_
   refine TO.nil (TQ.then_normal (T.ret (TQ.block_ret ?_)))
   refine TQ.rleave (.inl ⟨rfl, rfl⟩) (-1) ?_ rfl (fun _ _ h => h.sel (js := [2, 1, 0, 3, 4]) (by decide))
   ·try dsimp only
    first | exact .inl ⟨k, hk1, by rwa [Nat.min_eq_left (by omega)] at hc1, by rw [chainP, getD_get _ hk1]; simp_all, rfl⟩ | exact .inr ⟨by rwa [Nat.min_eq_right (by omega)] at hc1, by rw [show l.length = k by omega]; simp_all, rfl⟩
 ·obtain ⟨hc1, hc2⟩ := hx
  have e4 : firstIx (chainP w.holder l) l.length = none := firstIx_none (by rwa [Nat.min_eq_right (by omega)] at hc1)
  have e5 : ¬ (w.signer ≠ whoAt w.holder l l.length) := by simp [hc2 (by omega)]
  refine TQ.block_normal (TQ.then_normal (T.seq (T.seq (T.region ?_))))
  refine rdx (rd_load_agg (cs := #[.int _ _, .int _ _, .int _ _, .int _ _, .int _ _, .int _ _, .int _ _, .int _ _, .string _]) Tryz.agg30 rfl (Has.own 3 rfl) rfl rfl) ?_
  refine rdx (rd_load (v := .slice _ _ _) Tryz.one31 rfl (Has.own 4 rfl) rfl) ?_
  refine TO.fn Tryz.enters49 (c_wish_scope _ _ _ _ l (by first | rfl | simp | omega) (by first | omega | assumption)) rfl (ReadsC (Has.arg 2 rfl) Reads0) ?_
  refine rdx (rd_move (v := .tuple _) rfl) ?_
  refine rdx (rd_extract (v := .int _ _) (vs := _) rfl rfl) ?_
  refine rdx (rd_extract (v := .bool _) (vs := _) rfl rfl) ?_
  refine rdx (rd_assign (v := .int _ _) rfl) ?_
  refine rdx (rd_assign (v := .bool _) rfl) ?_
  refine TO.nil (TQ.then_normal (T.seq (T.region ?_)))
  refine rdx (rd_move (v := .bool _) rfl) ?_
  refine TO.nil (TQ.then_normal ?_)
  refine T.cond rfl (fun h19 => ?_) (fun h19 => ?_)
  ·try simp only [nrm] at h19
   refine T.seq (T.region ?_)
   refine rdx (rd_move (v := .int _ _) rfl) ?_
   refine TO.front1 ?_
   refine TO.store0 (cells' := #[.int _ _]) Tryz.size3 rfl (v := .int _ _) rfl rfl rfl (Nat.le_of_ble_eq_true rfl) rfl ?_
   refine TO.front2 ?_
   refine TO.store0 (cells' := #[.int _ _]) Tryz.size3 rfl (v := .int _ _) rfl rfl rfl (Nat.le_of_ble_eq_true rfl) rfl ?_
   refine TO.nil (TQ.then_normal (T.ret (TQ.then_ret ?_)))
   refine TQ.front2 ?_
   refine TQ.valueM ?_ (res2 Tryz.results13 (Res.cell (v := .int _ _) Tryz.one3 rfl (Has.own 1 rfl) rfl) (Res.cell (v := .int _ _) Tryz.one3 rfl (Has.own 0 rfl) rfl)) _ (.inl rfl)
   exact tup2 (by rw [whyOf, if_neg e0, e1, oneOr_none, if_neg (show ¬ (t < w.slo ∨ w.shi ≤ t) by omega), if_neg (show ¬ (nu < w.rlo ∨ w.rhi ≤ nu) by omega), e4, oneOr_none, if_neg e5, scope_why, if_pos h19])
  try simp only [nrm] at h19
  refine T.skip (TQ.then_normal (T.seq (T.seq (T.region ?_))))
  refine rdx (rd_load (v := .slice _ _ _) Tryz.one31 rfl (Has.own 4 rfl) rfl) ?_
  refine rdx (rd_lensl Tryz.under31 rfl) ?_
  refine rdx (rd_move (v := .int _ _) rfl) ?_
  refine TO.nil (TQ.then_normal (T.block ?_))
  have hkl := keys_len ek
  have hfr := forms_frm e1
  have hsg := wishOk_signer (w := w) (by simp_all)
  have e6 : ¬ ((scopeR w l).2 = true) := by simp_all
  refine T.loop1 [0, 6, 10, 11, 99, 100] (fun (k : Nat) => [(101, .int .i64 (k : Nat))]) (fun (k : Nat) => []) (fun (k : Nat) => k ≤ l.length ∧ okTo (sealP ks l) k) (fun (k : Nat) => l.length - k) (0) (⟨Nat.zero_le _, okTo.zero _⟩) (And.intro (rfl) (trivial)) (fun _ _ h => h) fun k g0 hx0 => ?_
  obtain ⟨hk, hk0⟩ := hx0
  refine T.seq (T.region ?_)
  refine rdx (rd_lss rfl rfl) ?_
  refine TO.nil (TQ.then_normal (T.seq ?_))
  refine T.cond_ft rfl (fun h20 => ?_) (fun h20 => ?_)
  ·try simp only [nrm] at h20
   refine T.exit (TQ.then_exit (TQ.then_exit (TQ.block_out (TQ.then_normal (T.seq (T.seq ?_))))))
   refine T.drawq Tryz.mixes 15 [(125, 0), (126, 1), (127, 2), (128, 3), (129, 4), (130, 5), (131, 6), (132, 7), (133, 8), (134, 9), (135, 10), (136, 11), (137, 12), (138, 13), (139, 14)] [0, 1, 0, 4, 15, 31, 63, 127, 63, 63, 575, 1855, 3903, 63, 16191, 32767, 65535] (by kernel_rfl) ?_
   refine DQ.rd rfl rfl (fun _ => rd_fieldAddr Tryz.field30_0 rfl) ?_
   refine DQ.rd rfl rfl (fun _ => rd_load (v := .int _ _) Tryz.one3 rfl (Has.own 3 rfl) rfl) ?_
   refine DQ.rd rfl rfl (fun _ => rd_move (v := .slice _ _ _) rfl) ?_
   refine DQ.rd rfl rfl (fun _ => rd_lensl Tryz.under32 rfl) ?_
   refine DQ.rd rfl rfl (fun _ => rd_geq rfl rfl) ?_
   refine DQ.rd rfl rfl (fun _ => rd_move (v := .bool _) rfl) ?_
   refine DQ.decide 5 rfl (fun h24 => ?_) (fun h24 => ?_)
   ·try simp only [nrm] at h24
    refine DQ.off (b' := true) rfl rfl (fun _ => rfl) nofun ?_
    refine DQ.off (b' := true) rfl rfl (fun _ => rfl) nofun ?_
    refine DQ.off (b' := true) rfl rfl (fun _ => rfl) nofun ?_
    refine DQ.off (b' := true) rfl rfl (fun _ => rfl) nofun ?_
    refine DQ.off (b' := true) rfl rfl (fun _ => rfl) nofun ?_
    refine DQ.off (b' := true) rfl rfl (fun _ => rfl) nofun ?_
    refine DQ.off (b' := true) rfl rfl (fun _ => rfl) nofun ?_
    refine DQ.off (b' := true) rfl rfl (fun _ => rfl) nofun ?_
    refine DQ.off (b' := true) rfl rfl (fun _ => rfl) nofun ?_
    refine DQ.done rfl ?_
    refine TO.guard_false (s := 130) (b' := true) rfl rfl nofun ?_
    refine rdx (rd_pick_true (v := .bool _) rfl rfl) ?_
    refine TO.nil (TQ.then_normal ?_)
    refine T.cond_true rfl ?_
    refine T.seq (T.region ?_)
    refine TO.front1 ?_
    refine TO.store0 (cells' := #[.int _ _]) Tryz.size3 rfl (v := .int _ _) rfl rfl rfl (Nat.le_of_ble_eq_true rfl) rfl ?_
    refine TO.front2 ?_
    refine TO.store0 (cells' := #[.int _ _]) Tryz.size3 rfl (v := .int _ _) rfl rfl rfl (Nat.le_of_ble_eq_true rfl) rfl ?_
    refine TO.nil (TQ.then_normal (T.ret (TQ.then_ret ?_)))
    refine TQ.front2 ?_
    refine TQ.valueM ?_ (res2 Tryz.results13 (Res.cell (v := .int _ _) Tryz.one3 rfl (Has.own 1 rfl) rfl) (Res.cell (v := .int _ _) Tryz.one3 rfl (Has.own 0 rfl) rfl)) _ (.inl rfl)
    have e8 : firstIx (sealP ks l) l.length = none := firstIx_none fun i hi => hk0 i (by omega)
    exact tup2 (by rw [whyOf, if_neg e0, e1, oneOr_none, if_neg (show ¬ (t < w.slo ∨ w.shi ≤ t) by omega), if_neg (show ¬ (nu < w.rlo ∨ w.rhi ≤ nu) by omega), e4, oneOr_none, if_neg e5, scope_why, if_neg e6, e8, oneOr_none, if_pos (by rw [sealBadW, decide_eq_true (by omega)]; rfl)])
   try simp only [nrm] at h24
   refine DQ.rdg rfl rfl (fun _ => rfl) (fun _ => rd_fieldAddr Tryz.field30_6 rfl) ?_
   refine DQ.rdg rfl rfl (fun _ => rfl) (fun _ => rd_load (v := .string _) Tryz.one9 rfl (Has.own 3 rfl) rfl) ?_
   refine DQ.rdg rfl rfl (fun _ => rfl) (fun _ => rd_move (v := .slice _ _ _) rfl) ?_
   refine DQ.rdg rfl rfl (fun _ => rfl) (fun _ => rd_fieldAddr Tryz.field30_0 rfl) ?_
   refine DQ.rdg rfl rfl (fun _ => rfl) (fun _ => rd_load (v := .int _ _) Tryz.one3 rfl (Has.own 3 rfl) rfl) ?_
   refine DQ.rdg rfl rfl (fun _ => rfl) (fun _ => rd_ix (k := (w.signer.toNat)) Tryz.under32 Tryz.size9 rfl rfl (Has.arg 1 rfl) (by omega) (by omega) (by omega)) ?_
   refine DQ.rdg rfl rfl (fun _ => rfl) (fun _ => rd_el (v := .string _) (w.signer.toNat) 0 Tryz.one9 rfl (Has.arg 1 rfl) rfl (by omega) (Nat.le_of_ble_eq_true rfl) rfl) ?_
   have hk137 := hkl (w.signer.toNat) (by omega)
   refine DQ.rdg rfl rfl (fun _ => rfl) (fun _ => rd_clo (b := [_]) rfl) ?_
   refine DQ.fng rfl rfl (fun _ => rfl) Tryz.enters50 (c_seal _ _ _ _ _ Tryz.enters53 (fun b => c_Why3 b _ w) (wishText_ne w) (Nat.le_trans (wishText_le w) (by decide)) (by omega)) (fun _ => rfl) (ReadsC (Has.arg 0 rfl) (ReadsC (Has.own 3 rfl) Reads0)) ?_
   refine DQ.done rfl ?_
   refine TO.guard_true (s := 130) rfl rfl ?_
   refine rdx (rd_nes' rfl rfl) ?_
   refine rdx (rd_pick_false (v := .bool _) rfl rfl) ?_
   refine TO.nil (TQ.then_normal ?_)
   refine T.cond rfl (fun h25 => ?_) (fun h25 => ?_)
   ·try simp only [nrm] at h25
    refine T.seq (T.region ?_)
    refine TO.front1 ?_
    refine TO.store0 (cells' := #[.int _ _]) Tryz.size3 rfl (v := .int _ _) rfl rfl rfl (Nat.le_of_ble_eq_true rfl) rfl ?_
    refine TO.front2 ?_
    refine TO.store0 (cells' := #[.int _ _]) Tryz.size3 rfl (v := .int _ _) rfl rfl rfl (Nat.le_of_ble_eq_true rfl) rfl ?_
    refine TO.nil (TQ.then_normal (T.ret (TQ.then_ret ?_)))
    refine TQ.front2 ?_
    refine TQ.valueM ?_ (res2 Tryz.results13 (Res.cell (v := .int _ _) Tryz.one3 rfl (Has.own 1 rfl) rfl) (Res.cell (v := .int _ _) Tryz.one3 rfl (Has.own 0 rfl) rfl)) _ (.inl rfl)
    have e8 : firstIx (sealP ks l) l.length = none := firstIx_none fun i hi => hk0 i (by omega)
    exact tup2 (by rw [whyOf, if_neg e0, e1, oneOr_none, if_neg (show ¬ (t < w.slo ∨ w.shi ≤ t) by omega), if_neg (show ¬ (nu < w.rlo ∨ w.rhi ≤ nu) by omega), e4, oneOr_none, if_neg e5, scope_why, if_neg e6, e8, oneOr_none, if_pos (by rw [sealBadW, getD_get _ (by omega)]; simp only [Bool.or_eq_true, Bool.not_eq_true', beq_eq_false_iff_ne]; exact .inr (by assumption))])
   try simp only [nrm] at h25
   refine T.skip (TQ.then_normal (T.seq (T.region ?_)))
   refine TO.front1 ?_
   refine TO.store0 (cells' := #[.int _ _]) Tryz.size3 rfl (v := .int _ _) rfl rfl rfl (Nat.le_of_ble_eq_true rfl) rfl ?_
   refine TO.front2 ?_
   refine TO.store0 (cells' := #[.int _ _]) Tryz.size3 rfl (v := .int _ _) rfl rfl rfl (Nat.le_of_ble_eq_true rfl) rfl ?_
   refine TO.nil (TQ.then_normal (T.ret ?_))
   refine TQ.front2 ?_
   refine TQ.valueM ?_ (res2 Tryz.results13 (Res.cell (v := .int _ _) Tryz.one3 rfl (Has.own 1 rfl) rfl) (Res.cell (v := .int _ _) Tryz.one3 rfl (Has.own 0 rfl) rfl)) _ (.inl rfl)
   have e8 : firstIx (sealP ks l) l.length = none := firstIx_none fun i hi => hk0 i (by omega)
   exact tup2 (by rw [whyOf, if_neg e0, e1, oneOr_none, if_neg (show ¬ (t < w.slo ∨ w.shi ≤ t) by omega), if_neg (show ¬ (nu < w.rlo ∨ w.rhi ≤ nu) by omega), e4, oneOr_none, if_neg e5, scope_why, if_neg e6, e8, oneOr_none, if_neg (by rw [sealBadW, getD_get _ (by omega)]; simp only [Bool.or_eq_true, decide_eq_true_eq, Bool.not_eq_true', beq_eq_false_iff_ne]; rintro (h' | h') <;> first | omega | contradiction | exact h' (by assumption))])
  try simp only [nrm] at h20
  refine T.skip (TQ.then_normal (T.seq (T.block (T.seq (T.region ?_)))))
  refine rdx (rd_move (v := .int _ _) rfl) ?_
  refine rdx (rd_ix Tryz.under31 Tryz.size40 rfl rfl (Has.arg 2 rfl) rfl (by omega) (by omega)) ?_
  refine rdx (rd_ela (cs := [.int _ _, .int _ _, .int _ _, .int _ _, .int _ _, .int _ _, .string _]) _ 0 Tryz.agg40 rfl (Has.arg 2 rfl) rfl (by omega) (Nat.le_of_ble_eq_true rfl) rfl rfl rfl) ?_
  have hk9 : k < l.length := by omega
  refine TO.alloc Tryz.zero40 (fun b21 => ?_)
  refine rdx (rd_assign (v := .int _ _) rfl) ?_
  refine TO.store0 (cells' := #[.int _ _, .int _ _, .int _ _, .int _ _, .int _ _, .int _ _, .string _]) Tryz.size40 rfl (v := .agg #[.int _ _, .int _ _, .int _ _, .int _ _, .int _ _, .int _ _, .string _]) rfl rfl rfl (Nat.le_of_ble_eq_true rfl) rfl ?_
  refine TO.nil (TQ.then_normal (T.seq ?_))
  refine T.drawq Tryz.mixes 15 [(106, 0), (107, 1), (108, 2), (109, 3), (110, 4), (111, 5), (112, 6), (113, 7), (114, 8), (115, 9), (116, 10), (117, 11), (118, 12), (119, 13), (120, 14)] [0, 1, 0, 4, 15, 31, 63, 127, 63, 63, 575, 1855, 3903, 63, 16191, 32767, 65535] (by kernel_rfl) ?_
  refine DQ.rd rfl rfl (fun _ => rd_fieldAddr Tryz.field40_0 rfl) ?_
  refine DQ.rd rfl rfl (fun _ => rd_load (v := .int _ _) Tryz.one3 rfl (Has.own 0 rfl) rfl) ?_
  refine DQ.rd rfl rfl (fun _ => rd_move (v := .slice _ _ _) rfl) ?_
  refine DQ.rd rfl rfl (fun _ => rd_lensl Tryz.under32 rfl) ?_
  refine DQ.rd rfl rfl (fun _ => rd_geq rfl rfl) ?_
  refine DQ.rd rfl rfl (fun _ => rd_move (v := .bool _) rfl) ?_
  refine DQ.decide 5 rfl (fun h22 => ?_) (fun h22 => ?_)
  ·try simp only [nrm] at h22
   refine DQ.off (b' := true) rfl rfl (fun _ => rfl) nofun ?_
   refine DQ.off (b' := true) rfl rfl (fun _ => rfl) nofun ?_
   refine DQ.off (b' := true) rfl rfl (fun _ => rfl) nofun ?_
   refine DQ.off (b' := true) rfl rfl (fun _ => rfl) nofun ?_
   refine DQ.off (b' := true) rfl rfl (fun _ => rfl) nofun ?_
   refine DQ.off (b' := true) rfl rfl (fun _ => rfl) nofun ?_
   refine DQ.off (b' := true) rfl rfl (fun _ => rfl) nofun ?_
   refine DQ.off (b' := true) rfl rfl (fun _ => rfl) nofun ?_
   refine DQ.off (b' := true) rfl rfl (fun _ => rfl) nofun ?_
   refine DQ.done rfl ?_
   refine TO.guard_false (s := 111) (b' := true) rfl rfl nofun ?_
   refine rdx (rd_pick_true (v := .bool _) rfl rfl) ?_
   refine TO.nil (TQ.then_normal ?_)
   refine T.cond_true rfl ?_
   refine T.seq (T.region ?_)
   refine rdx (rd_move (v := .int _ _) rfl) ?_
   refine TO.front2 ?_
   refine TO.store0 (cells' := #[.int _ _]) Tryz.size3 rfl (v := .int _ _) rfl rfl rfl (Nat.le_of_ble_eq_true rfl) rfl ?_
   refine TO.front3 ?_
   refine TO.store0 (cells' := #[.int _ _]) Tryz.size3 rfl (v := .int _ _) rfl rfl rfl (Nat.le_of_ble_eq_true rfl) rfl ?_
   refine TO.nil (TQ.then_normal (T.ret (TQ.block_ret (TQ.then_ret (TQ.then_ret (TQ.block_ret (TQ.then_ret ?_)))))))
   refine TQ.front3 ?_
   refine TQ.valueM ?_ (res2 Tryz.results13 (Res.cell (v := .int _ _) Tryz.one3 rfl (Has.own 1 rfl) rfl) (Res.cell (v := .int _ _) Tryz.one3 rfl (Has.own 0 rfl) rfl)) _ (.inl rfl)
   exact tup2 (by rw [whyOf, if_neg e0, e1, oneOr_none, if_neg (show ¬ (t < w.slo ∨ w.shi ≤ t) by omega), if_neg (show ¬ (nu < w.rlo ∨ w.rhi ≤ nu) by omega), e4, oneOr_none, if_neg e5, scope_why, if_neg e6, firstIx_some hk0 (by rw [sealP, getD_get _ (by omega), sealBadP]; simp_all) (by omega), oneOr_some])
  try simp only [nrm] at h22
  refine DQ.rdg rfl rfl (fun _ => rfl) (fun _ => rd_fieldAddr Tryz.field40_4 rfl) ?_
  refine DQ.rdg rfl rfl (fun _ => rfl) (fun _ => rd_load (v := .string _) Tryz.one9 rfl (Has.own 0 rfl) rfl) ?_
  refine DQ.rdg rfl rfl (fun _ => rfl) (fun _ => rd_move (v := .slice _ _ _) rfl) ?_
  refine DQ.rdg rfl rfl (fun _ => rfl) (fun _ => rd_fieldAddr Tryz.field40_0 rfl) ?_
  refine DQ.rdg rfl rfl (fun _ => rfl) (fun _ => rd_load (v := .int _ _) Tryz.one3 rfl (Has.own 0 rfl) rfl) ?_
  refine DQ.rdg rfl rfl (fun _ => rfl) (fun _ => rd_ix (k := ((l[k]'hk9).frm.toNat)) Tryz.under32 Tryz.size9 rfl rfl (Has.arg 1 rfl) (by have := hfr k (by omega); omega) (by have := hfr k (by omega); omega) (by omega)) ?_
  refine DQ.rdg rfl rfl (fun _ => rfl) (fun _ => rd_el (v := .string _) ((l[k]'hk9).frm.toNat) 0 Tryz.one9 rfl (Has.arg 1 rfl) rfl (by have := hfr k (by omega); omega) (Nat.le_of_ble_eq_true rfl) rfl) ?_
  have hk118 := hkl ((l[k]'hk9).frm.toNat) (by have := hfr k (by omega); omega)
  refine DQ.rdg rfl rfl (fun _ => rfl) (fun _ => rd_clo (b := [_]) rfl) ?_
  refine DQ.fng rfl rfl (fun _ => rfl) Tryz.enters50 (c_seal _ _ _ _ _ Tryz.enters51 (fun b => c_Why2 b _ (l[k]'hk9)) (proxyText_ne (l[k]'hk9)) (Nat.le_trans (proxyText_le (l[k]'hk9)) (by decide)) (by omega)) (fun _ => rfl) (ReadsC (Has.arg 0 rfl) (ReadsC (Has.own 0 rfl) Reads0)) ?_
  refine DQ.done rfl ?_
  refine TO.guard_true (s := 111) rfl rfl ?_
  refine rdx (rd_nes' rfl rfl) ?_
  refine rdx (rd_pick_false (v := .bool _) rfl rfl) ?_
  refine TO.nil (TQ.then_normal ?_)
  refine T.cond_ft rfl (fun h23 => ?_) (fun h23 => ?_)
  ·try simp only [nrm] at h23
   refine T.skip (TQ.block_normal (TQ.then_normal (T.region ?_)))
   refine rdx (rd_add rfl rfl (w64 (by omega) (by omega))) ?_
   refine rdx (rd_move (v := .int _ _) rfl) ?_
   refine TO.nil ?_
   refine TQ.againk (k + 1) ?_ ?_ (And.intro (rfl) (trivial)) (And.intro (rfl) (And.intro (rfl) (And.intro (rfl) (And.intro (rfl) (And.intro (rfl) (And.intro (rfl) (trivial))))))) (fun _ _ h => h.sel (js := [1, 2, 3, 4, 5, 6, 7]) (by decide))
   ·exact ⟨by first | omega | (dsimp only; omega), hk0.next (by rw [sealP, getD_get _ (by omega), sealBadP]; simp_all)⟩
   ·first | omega | (dsimp only; omega)
  try simp only [nrm] at h23
  refine T.seq (T.region ?_)
  refine rdx (rd_move (v := .int _ _) rfl) ?_
  refine TO.front2 ?_
  refine TO.store0 (cells' := #[.int _ _]) Tryz.size3 rfl (v := .int _ _) rfl rfl rfl (Nat.le_of_ble_eq_true rfl) rfl ?_
  refine TO.front3 ?_
  refine TO.store0 (cells' := #[.int _ _]) Tryz.size3 rfl (v := .int _ _) rfl rfl rfl (Nat.le_of_ble_eq_true rfl) rfl ?_
  refine TO.nil (TQ.then_normal (T.ret (TQ.block_ret (TQ.then_ret (TQ.then_ret (TQ.block_ret (TQ.then_ret ?_)))))))
  refine TQ.front3 ?_
  refine TQ.valueM ?_ (res2 Tryz.results13 (Res.cell (v := .int _ _) Tryz.one3 rfl (Has.own 1 rfl) rfl) (Res.cell (v := .int _ _) Tryz.one3 rfl (Has.own 0 rfl) rfl)) _ (.inl rfl)
  exact tup2 (by rw [whyOf, if_neg e0, e1, oneOr_none, if_neg (show ¬ (t < w.slo ∨ w.shi ≤ t) by omega), if_neg (show ¬ (nu < w.rlo ∨ w.rhi ≤ nu) by omega), e4, oneOr_none, if_neg e5, scope_why, if_neg e6, firstIx_some hk0 (by rw [sealP, getD_get _ (by omega), sealBadP, getD_get _ (by have := hfr k (by omega); omega)]; simp_all) (by omega), oneOr_some])
 refine T.ret (TQ.block_ret (TQ.then_ret ?_))
 refine TQ.valueM ?_ (res2 Tryz.results13 (Res.cell (v := .int _ _) Tryz.one3 rfl (Has.own 0 rfl) rfl) (Res.cell (v := .int _ _) Tryz.one3 rfl (Has.own 1 rfl) rfl)) _ (.inl rfl)
 rcases hy with ⟨k, hk1, hk2, hk3, rfl⟩ | ⟨hk1, hk2, rfl⟩
 ·exact tup2 (by rw [whyOf, if_neg e0, e1, oneOr_none, if_neg (show ¬ (t < w.slo ∨ w.shi ≤ t) by omega), if_neg (show ¬ (nu < w.rlo ∨ w.rhi ≤ nu) by omega), firstIx_some hk2 hk3 hk1, oneOr_some])
 ·exact tup2 (by rw [whyOf, if_neg e0, e1, oneOr_none, if_neg (show ¬ (t < w.slo ∨ w.shi ≤ t) by omega), if_neg (show ¬ (nu < w.rlo ∨ w.rhi ≤ nu) by omega), firstIx_none hk1, oneOr_none, if_pos hk2])
end Go.Proofs
end
section
set_option linter.unusedVariables false
set_option linter.unusedSimpArgs false
set_option maxRecDepth 100000
set_option maxHeartbeats 800000
namespace Go.Proofs
open Go.TL
attribute [local irreducible] Go.TL.T Go.TL.TO Go.TL.TQ
theorem c_wish_Valid (A : Option Addr) (cap n : Nat) (ks : List Bytes) (hn : n = ks.length) (w : Wish) (B : Option Addr) (capb m : Nat) (l : List Proxy) (hm : m = l.length) (nu t : Int) (hksl : ks.length ≤ 4611686018427387904) (hll : l.length ≤ 4611686018427387904) : Cv Tryz.prog 15 #[.slice A n cap, wishV w, .slice B m capb, .int .i64 nu, .int .i64 t] [glob 0 roundC 162, slc eStr 1 A ks, slc proxyL 7 B l] (.bool (validOf ks w l nu t)) := by
 subst hn hm
 refine Ctr.intro Tryz.func15 rfl Tryz.ntmps15 (Nat.le_of_ble_eq_true rfl) fun S0 w0 => ?_
 refine T.seq (T.region ?_)
 refine TO.box (v := .agg #[.int _ _, .int _ _, .int _ _, .int _ _, .int _ _, .int _ _, .int _ _, .int _ _, .string _]) rfl (fun b1 => ?_)
 refine rdx (rd_assign (v := .bool _) rfl) ?_
 refine TO.nil (TQ.then_normal (T.seq (T.region ?_)))
 refine rdx (rd_move (v := .slice _ _ _) rfl) ?_
 refine rdx (rd_load_agg (cs := #[.int _ _, .int _ _, .int _ _, .int _ _, .int _ _, .int _ _, .int _ _, .int _ _, .string _]) Tryz.agg30 rfl (Has.own 0 rfl) rfl rfl) ?_
 refine rdx (rd_move (v := .slice _ _ _) rfl) ?_
 refine rdx (rd_move (v := .int _ _) rfl) ?_
 refine rdx (rd_move (v := .int _ _) rfl) ?_
 refine TO.fn Tryz.enters13 (c_wish_Why _ _ _ ks (by first | rfl | simp | omega) _ _ _ _ l (by first | rfl | simp | omega) _ _ (by first | omega | assumption | (rw [keysN_len]; omega)) (by first | omega | assumption | (simp; done) | (simp only [List.length_drop, List.length_take, List.length_append]; omega))) rfl (ReadsC (Has.arg 0 rfl) (ReadsC (Has.arg 1 rfl) (ReadsC (Has.arg 2 rfl) Reads0))) ?_
 refine rdx (rd_move (v := .tuple _) rfl) ?_
 refine rdx (rd_extract (v := .int _ _) (vs := _) rfl rfl) ?_
 refine rdx (rd_extract (v := .int _ _) (vs := _) rfl rfl) ?_
 refine rdx (rd_assign (v := .int _ _) rfl) ?_
 refine rdx (rd_assign (v := .int _ _) rfl) ?_
 refine TO.nil (TQ.then_normal (T.seq (T.region ?_)))
 refine rdx (rd_move (v := .int _ _) rfl) ?_
 refine rdx (rd_eql rfl rfl) ?_
 refine rdx (rd_assign (v := .bool _) rfl) ?_
 refine TO.nil (TQ.then_normal (T.ret ?_))
 refine TQ.value ?_ (res1 Tryz.results15 (Res.tmp (v := .bool _) rfl)) _ (.inl rfl)
 rfl
theorem c_wish_Account (k0 : Bytes) (n e : Int) (hk : k0.length ≤ 1000000000) : Cv Tryz.prog 29 #[.string (str k0), .int .i64 n, .int .i64 e] [glob 0 roundC 162] (.tuple #[.string (str (account k0 n e).1), .int .i64 (account k0 n e).2]) := by
 refine Ctr.intro Tryz.func29 rfl Tryz.ntmps29 (Nat.le_of_ble_eq_true rfl) fun S0 w0 => ?_
 refine T.seq (T.region ?_)
 refine TO.box (v := .int _ _) rfl (fun b1 => ?_)
 refine TO.box (v := .int _ _) rfl (fun b2 => ?_)
 refine rdx (rd_assign (v := .string _) rfl) ?_
 refine rdx (rd_assign (v := .int _ _) rfl) ?_
 refine TO.nil (TQ.then_normal (T.seq (T.seq (T.region ?_))))
 refine rdx (rd_move (v := .string _) rfl) ?_
 refine TO.fn Tryz.enters43 (c_wish_isKey _) rfl Reads0 ?_
 refine rdx (rd_not rfl) ?_
 refine rdx (rd_move (v := .bool _) rfl) ?_
 refine TO.decide (s := 14) rfl (fun h3 => ?_) (fun h3 => ?_)
 ·try simp only [nrm] at h3
  refine TO.guard_false (s := 14) (b' := true) rfl rfl nofun ?_
  refine TO.guard_false (s := 14) (b' := true) rfl rfl nofun ?_
  refine TO.guard_false (s := 14) (b' := true) rfl rfl nofun ?_
  refine rdx (rd_pick_true (v := .bool _) rfl rfl) ?_
  refine rdx (rd_move (v := .bool _) rfl) ?_
  refine TO.guard_false (s := 19) (b' := true) rfl rfl nofun ?_
  refine TO.guard_false (s := 19) (b' := true) rfl rfl nofun ?_
  refine TO.guard_false (s := 19) (b' := true) rfl rfl nofun ?_
  refine rdx (rd_pick_true (v := .bool _) rfl rfl) ?_
  refine TO.nil (TQ.then_normal ?_)
  refine T.cond_true rfl ?_
  refine T.seq (T.region ?_)
  refine rdx (rd_assign (v := .string _) rfl) ?_
  refine rdx (rd_assign (v := .int _ _) rfl) ?_
  refine TO.nil (TQ.then_normal (T.ret (TQ.then_ret ?_)))
  refine TQ.value ?_ (res2 Tryz.results29 (Res.tmp (v := .string _) rfl) (Res.tmp (v := .int _ _) rfl)) _ (.inl rfl)
  rw [account, if_neg (by rintro ⟨e1, e2, e3⟩; first | omega | simp_all)]; rfl
 try simp only [nrm] at h3
 refine TO.guard_true (s := 14) rfl rfl ?_
 refine rdx (rd_load (v := .int _ _) Tryz.one3 rfl (Has.own 1 rfl) rfl) ?_
 refine TO.guard_true (s := 14) rfl rfl ?_
 refine TO.fn Tryz.enters47 (c_wish_isWithin _ _ _) rfl Reads0 ?_
 refine TO.guard_true (s := 14) rfl rfl ?_
 refine rdx (rd_not rfl) ?_
 refine rdx (rd_pick_false (v := .bool _) rfl rfl) ?_
 refine rdx (rd_move (v := .bool _) rfl) ?_
 refine TO.decide (s := 19) rfl (fun h4 => ?_) (fun h4 => ?_)
 ·try simp only [nrm] at h4
  refine TO.guard_false (s := 19) (b' := true) rfl rfl nofun ?_
  refine TO.guard_false (s := 19) (b' := true) rfl rfl nofun ?_
  refine TO.guard_false (s := 19) (b' := true) rfl rfl nofun ?_
  refine rdx (rd_pick_true (v := .bool _) rfl rfl) ?_
  refine TO.nil (TQ.then_normal ?_)
  refine T.cond_true rfl ?_
  refine T.seq (T.region ?_)
  refine rdx (rd_assign (v := .string _) rfl) ?_
  refine rdx (rd_assign (v := .int _ _) rfl) ?_
  refine TO.nil (TQ.then_normal (T.ret (TQ.then_ret ?_)))
  refine TQ.value ?_ (res2 Tryz.results29 (Res.tmp (v := .string _) rfl) (Res.tmp (v := .int _ _) rfl)) _ (.inl rfl)
  rw [account, if_neg (by rintro ⟨e1, e2, e3⟩; first | omega | simp_all)]; rfl
 try simp only [nrm] at h4
 refine TO.guard_true (s := 19) rfl rfl ?_
 refine rdx (rd_load (v := .int _ _) Tryz.one3 rfl (Has.own 0 rfl) rfl) ?_
 refine TO.guard_true (s := 19) rfl rfl ?_
 refine TO.fn Tryz.enters47 (c_wish_isWithin _ _ _) rfl Reads0 ?_
 refine TO.guard_true (s := 19) rfl rfl ?_
 refine rdx (rd_not rfl) ?_
 refine rdx (rd_pick_false (v := .bool _) rfl rfl) ?_
 refine TO.nil (TQ.then_normal ?_)
 refine T.cond rfl (fun h5 => ?_) (fun h5 => ?_)
 ·try simp only [nrm] at h5
  refine T.seq (T.region ?_)
  refine rdx (rd_assign (v := .string _) rfl) ?_
  refine rdx (rd_assign (v := .int _ _) rfl) ?_
  refine TO.nil (TQ.then_normal (T.ret (TQ.then_ret ?_)))
  refine TQ.value ?_ (res2 Tryz.results29 (Res.tmp (v := .string _) rfl) (Res.tmp (v := .int _ _) rfl)) _ (.inl rfl)
  rw [account, if_neg (by rintro ⟨e1, e2, e3⟩; first | omega | simp_all)]; rfl
 try simp only [nrm] at h5
 refine T.skip (TQ.then_normal (T.seq (T.region ?_)))
 refine rdx (rd_move (v := .string _) rfl) ?_
 refine rdx (rd_clo (b := [_, _]) rfl) ?_
 refine TO.fn Tryz.enters50 (c_seal _ _ _ _ _ Tryz.enters74 (fun b => c_Account1 b _ _ n e) (puts3_ne n e) (Nat.le_trans (puts3_le _ _ _) (by decide)) (by omega)) rfl (ReadsC (Has.arg 0 rfl) (ReadsC (Has.own 1 rfl) (ReadsC (Has.own 0 rfl) Reads0))) ?_
 obtain ⟨s0, hs0⟩ : ∃ s0, s0 = sealOf k0 (puts [3, n, e]) := ⟨_, rfl⟩
 rw [← hs0]
 have hsl : s0.length = 32 := by rw [hs0]; exact sealOf_len _ _
 refine rdx (rd_assign (v := .string _) rfl) ?_
 refine TO.nil (TQ.then_normal (T.seq (T.region ?_)))
 refine TO.alloc Tryz.zero100 (fun b6 => ?_)
 refine TO.tobld (e := 5) ?_
 refine TO.nil (TQ.then_normal (T.seq (T.seq (T.region ?_))))
 refine rdx (rd_move (v := .int _ _) rfl) ?_
 refine TO.nil (TQ.then_normal (T.block ?_))
 refine T.loop1 [8, 9] (fun (k : Nat) => [(27, .int .i64 (k : Nat))]) (fun (k : Nat) => [bld 5 100 b6 ((s0.take k).flatMap hexByte)]) (fun (k : Nat) => k ≤ 8) (fun (k : Nat) => 8 - k) (0) (Nat.zero_le _) (And.intro (rfl) (trivial)) (fun _ _ h => h) fun k g0 hx0 => ?_
 have hlx := hexLen (s0.take k)
 rw [List.length_take] at hlx
 refine T.seq (T.region ?_)
 refine rdx (rd_lss rfl rfl) ?_
 refine TO.nil (TQ.then_normal (T.seq ?_))
 refine T.cond_ft rfl (fun h7 => ?_) (fun h7 => ?_)
 ·try simp only [nrm] at h7
  refine T.exit (TQ.then_exit (TQ.then_exit (TQ.block_out (TQ.then_normal (T.seq (T.region ?_))))))
  refine TO.hand Tryz.enters66 rfl (c_String _ _ _ (by rw [show k = 8 by omega]; intro hq; have := hexLen (s0.take 8); rw [hq, List.length_take] at this; simp at this; omega)) rfl rfl Reads0 (fun _ hx10 => ?_)
  refine rdx (rd_assign (v := .string _) rfl) ?_
  refine rdx (rd_assign (v := .int _ _) rfl) ?_
  refine TO.nil (TQ.then_normal (T.ret ?_))
  refine TQ.value ?_ (res2 Tryz.results29 (Res.tmp (v := .string _) rfl) (Res.tmp (v := .int _ _) rfl)) _ (.inl rfl)
  rw [account, if_pos ⟨by omega, by simp_all, by simp_all⟩, ← hs0, hexOf, show k = 8 by omega]
 try simp only [nrm] at h7
 refine T.skip (TQ.then_normal (T.seq (T.block (T.seq (T.region ?_)))))
 refine rdx (rd_move (v := .int _ _) rfl) ?_
 refine rdx (rd_assign (v := .int _ _) rfl) ?_
 refine TO.nil (TQ.then_normal (T.seq (T.region ?_)))
 refine rdx (rd_move (v := .string _) rfl) ?_
 refine rdx (rd_move (v := .int _ _) rfl) ?_
 refine rdx (rd_idxs (a := s0) (j := k) Tryz.under9 rfl rfl rfl (by omega)) ?_
 refine rdx (rd_shr8 rfl rfl rfl (UInt8.toNat_lt _)) ?_
 refine rdx (rd_hexs (j := (s0[k]'(by omega)).toNat / 16) Tryz.under9 rfl rfl (by have := (s0[k]'(by omega)).toNat_lt; omega)) ?_
 refine TO.hand Tryz.enters75 rfl (c_WriteByte _ _ _ _ (by first | exact Tryz.lies102_100 | exact Tryz.lies100_100) (by first | omega | exact wishText_le _ | exact proxyText_le _ | exact puts3_le _ _ _ | (simp only [List.length_append, List.length_cons, List.length_nil, sha_len, leafOf_len, nodeOf_len, sealOf_len, List.length_take, List.length_drop]; omega) | (rw [keyB_len]; omega))) rfl rfl Reads0 (fun _ hx8 => ?_)
 refine TO.nil (TQ.then_normal (T.region ?_))
 refine rdx (rd_move (v := .string _) rfl) ?_
 refine rdx (rd_move (v := .int _ _) rfl) ?_
 refine rdx (rd_idxs (a := s0) (j := k) Tryz.under9 rfl rfl rfl (by omega)) ?_
 refine rdx (rd_and15 rfl rfl rfl (UInt8.toNat_lt _)) ?_
 refine rdx (rd_hexs (j := (s0[k]'(by omega)).toNat % 16) Tryz.under9 rfl rfl (by omega)) ?_
 refine TO.hand Tryz.enters75 rfl (c_WriteByte _ _ _ _ (by first | exact Tryz.lies102_100 | exact Tryz.lies100_100) (by first | omega | exact wishText_le _ | exact proxyText_le _ | exact puts3_le _ _ _ | (simp only [List.length_append, List.length_cons, List.length_nil, sha_len, leafOf_len, nodeOf_len, sealOf_len, List.length_take, List.length_drop]; omega) | (rw [keyB_len]; omega))) rfl rfl Reads0 (fun _ hx9 => ?_)
 refine TO.bld_eq ((s0.take (k + 1)).flatMap hexByte) (by rw [← take_snoc (by omega), List.flatMap_append]; simp [hexByte]) ?_
 refine TO.nil (TQ.block_normal (TQ.then_normal (T.region ?_)))
 refine rdx (rd_add rfl rfl (w64 (by omega) (by omega))) ?_
 refine rdx (rd_move (v := .int _ _) rfl) ?_
 refine TO.nil ?_
 refine TQ.againk (k + 1) ?_ ?_ (And.intro (rfl) (trivial)) (And.intro (rfl) (And.intro (rfl) (trivial))) (fun _ _ h => h)
 ·first | omega | (dsimp only; omega)
 ·first | omega | (dsimp only; omega)
theorem c_wish_Checks (k : Bytes) (n e : Int) (c : Bytes) (hk : k.length ≤ 1000000000) : Cv Tryz.prog 31 #[.string (str k), .int .i64 n, .int .i64 e, .string (str c)] [glob 0 roundC 162] (.bool (checks k n e c)) := by
 refine Ctr.intro Tryz.func31 rfl Tryz.ntmps31 (Nat.le_of_ble_eq_true rfl) fun S0 w0 => ?_
 refine T.seq (T.region ?_)
 refine rdx (rd_assign (v := .bool _) rfl) ?_
 refine TO.nil (TQ.then_normal (T.seq (T.region ?_)))
 refine rdx (rd_move (v := .string _) rfl) ?_
 refine rdx (rd_move (v := .int _ _) rfl) ?_
 refine rdx (rd_move (v := .int _ _) rfl) ?_
 refine TO.fn Tryz.enters29 (c_wish_Account _ _ _ (by first | (rw [keyB_len]; omega) | omega | assumption)) rfl (ReadsC (Has.arg 0 rfl) Reads0) ?_
 refine rdx (rd_move (v := .tuple _) rfl) ?_
 refine rdx (rd_extract (v := .string _) (vs := _) rfl rfl) ?_
 refine rdx (rd_extract (v := .int _ _) (vs := _) rfl rfl) ?_
 refine rdx (rd_assign (v := .string _) rfl) ?_
 refine rdx (rd_assign (v := .int _ _) rfl) ?_
 refine TO.nil (TQ.then_normal (T.seq (T.region ?_)))
 refine rdx (rd_move (v := .int _ _) rfl) ?_
 refine rdx (rd_eql rfl rfl) ?_
 refine rdx (rd_move (v := .bool _) rfl) ?_
 refine TO.decide_ft (s := 20) rfl (fun h1 => ?_) (fun h1 => ?_)
 ·refine TO.guard_false (s := 20) (b' := false) rfl rfl nofun ?_
  refine TO.guard_false (s := 20) (b' := false) rfl rfl nofun ?_
  refine TO.guard_false (s := 20) (b' := false) rfl rfl nofun ?_
  refine rdx (rd_pick_false (v := .bool _) rfl rfl) ?_
  refine rdx (rd_assign (v := .bool _) rfl) ?_
  refine TO.nil (TQ.then_normal (T.ret ?_))
  refine TQ.value ?_ (res1 Tryz.results31 (Res.tmp (v := .bool _) rfl)) _ (.inl rfl)
  show Value.bool _ = Value.bool _; simp [checks, h1]
 refine TO.guard_true (s := 20) rfl rfl ?_
 refine rdx (rd_move (v := .string _) rfl) ?_
 refine TO.guard_true (s := 20) rfl rfl ?_
 refine rdx (rd_move (v := .string _) rfl) ?_
 refine TO.guard_true (s := 20) rfl rfl ?_
 refine rdx (rd_eqs' rfl rfl) ?_
 refine rdx (rd_pick_true (v := .bool _) rfl rfl) ?_
 refine rdx (rd_assign (v := .bool _) rfl) ?_
 refine TO.nil (TQ.then_normal (T.ret ?_))
 refine TQ.value ?_ (res1 Tryz.results31 (Res.tmp (v := .bool _) rfl)) _ (.inl rfl)
 show Value.bool _ = Value.bool _; simp [checks, h1]
end Go.Proofs
end
section
set_option linter.unusedVariables false
set_option linter.unusedSimpArgs false
set_option maxRecDepth 100000
set_option maxHeartbeats 800000
namespace Go.Proofs
open Go.TL
attribute [local irreducible] Go.TL.T Go.TL.TO Go.TL.TQ
theorem c_law15_is (w : Wish) (A : Option Addr) (cap n : Nat) (l : List Proxy) (hn : n = l.length) (nu t r i : Int) (hll : l.length ≤ 4611686018427387904) : Cv Tryz.prog 39 #[wishV w, .slice A n cap, .int .i64 nu, .int .i64 t, .int .i64 r, .int .i64 i] [glob 0 roundC 162, slc proxyL 7 A l] (.bool (isOf w l nu t r i)) := by
 subst hn
 refine Ctr.intro Tryz.func39 rfl Tryz.ntmps39 (Nat.le_of_ble_eq_true rfl) fun S0 w0 => ?_
 refine T.seq (T.region ?_)
 refine TO.box (v := .agg #[.int _ _, .int _ _, .int _ _, .int _ _, .int _ _, .int _ _, .int _ _, .int _ _, .string _]) rfl (fun b1 => ?_)
 refine rdx (rd_assign (v := .bool _) rfl) ?_
 refine TO.nil (TQ.then_normal (T.seq ?_))
 refine T.drawg Tryz.mixes 10 [(16, 0), (17, 1), (18, 2), (19, 3), (20, 4), (21, 5), (15, 6), (22, 7), (23, 8), (13, 9)] [0, 0, 0, 0, 0, 31, 63, 127, 127, 255, 1023] [0] (by kernel_rfl) ?_
 refine DG.fnx rfl rfl Tryz.enters11 (c_ref15_Keys) (fun _ _ => rfl) Reads0 ?_
 refine DG.rd rfl rfl rfl (fun _ _ => rd_load_agg (cs := #[.int _ _, .int _ _, .int _ _, .int _ _, .int _ _, .int _ _, .int _ _, .int _ _, .string _]) Tryz.agg30 rfl (Has.own 0 rfl) rfl rfl) ?_
 refine DG.rd rfl rfl rfl (fun _ _ => rd_move (v := .slice _ _ _) rfl) ?_
 refine DG.rd rfl rfl rfl (fun _ _ => rd_move (v := .int _ _) rfl) ?_
 refine DG.rd rfl rfl rfl (fun _ _ => rd_move (v := .int _ _) rfl) ?_
 refine DG.fnp rfl rfl Tryz.enters13 (fun ρ => c_wish_Why (ρ 0).1 (ρ 0).2 10 (keysN 10) (by first | rfl | simp [keysN_len]) (w) _ _ _ l (by first | rfl | simp | omega) (nu) (t) (by first | omega | assumption | (rw [keysN_len]; omega)) (by first | omega | assumption | (simp; done) | (simp only [List.length_drop, List.length_take, List.length_append]; omega))) (fun _ _ => rfl) (fun ρ M hM => (ReadsC (Has.arg 0 rfl) (ReadsC (row_slc' (e := eStr) (xs := (keysN 10)) (fun _ => rfl) (by first | rfl | simp [keysN_len]) (by first | rfl | exact bytesC_flat _) (Has.fromM 0 (hM 0 rfl))) (ReadsC (Has.appR (Has.arg 1 rfl)) Reads0)))) ?_
 refine DG.rd rfl rfl rfl (fun _ _ => rd_move (v := .tuple _) rfl) ?_
 refine DG.rd rfl rfl rfl (fun _ _ => rd_extract (v := .int _ _) (vs := _) rfl rfl) ?_
 refine DG.rd rfl rfl rfl (fun _ _ => rd_extract (v := .int _ _) (vs := _) rfl rfl) ?_
 refine DG.rd rfl rfl rfl (fun _ _ => rd_assign (v := .int _ _) rfl) ?_
 refine DG.done rfl (by decide) rfl (fun gh3 => ?_)
 refine rdx (rd_assign (v := .int _ _) rfl) ?_
 refine TO.nil (TQ.then_normal (T.seq ?_))
 refine T.drawg Tryz.mixes 17 [(24, 0), (25, 1), (26, 2), (27, 3), (28, 4), (29, 5), (30, 6), (31, 7), (32, 8), (33, 9), (34, 10), (35, 11), (36, 12), (37, 13), (38, 14), (39, 15), (40, 16)] [0, 0, 3, 7, 15, 15, 63, 127, 255, 511, 511, 511, 511, 511, 16383, 511, 33279, 131071, 262143, 524287] [9] (by kernel_rfl) ?_
 refine DG.rd rfl rfl rfl (fun _ _ => rd_move (v := .int _ _) rfl) ?_
 refine DG.rd rfl rfl rfl (fun _ _ => rd_move (v := .int _ _) rfl) ?_
 refine DG.rd rfl rfl rfl (fun _ _ => rd_eql rfl rfl) ?_
 refine DG.rd rfl rfl rfl (fun _ _ => rd_move (v := .bool _) rfl) ?_
 refine DG.decide_ft 3 rfl (fun h4 => ?_) (fun h4 => ?_)
 ·refine DG.off (b' := false) rfl rfl rfl (fun _ _ => rfl) nofun ?_
  refine DG.off (b' := false) rfl rfl rfl (fun _ _ => rfl) nofun ?_
  refine DG.off (b' := false) rfl rfl rfl (fun _ _ => rfl) nofun ?_
  refine DG.rd rfl rfl rfl (fun _ _ => rd_pick_false (v := .bool _) rfl rfl) ?_
  refine DG.rd rfl rfl rfl (fun _ _ => rd_move (v := .bool _) rfl) ?_
  refine DG.offR (b' := false) rfl rfl rfl (fun _ _ => rfl) nofun ?_
  refine DG.off (b' := false) rfl rfl rfl (fun _ _ => rfl) nofun ?_
  refine DG.off (b' := false) rfl rfl rfl (fun _ _ => rfl) nofun ?_
  refine DG.off (b' := false) rfl rfl rfl (fun _ _ => rfl) nofun ?_
  refine DG.off (b' := false) rfl rfl rfl (fun _ _ => rfl) nofun ?_
  refine DG.off (b' := false) rfl rfl rfl (fun _ _ => rfl) nofun ?_
  refine DG.off (b' := false) rfl rfl rfl (fun _ _ => rfl) nofun ?_
  refine DG.off (b' := false) rfl rfl rfl (fun _ _ => rfl) nofun ?_
  refine DG.done rfl (by decide) rfl (fun gh11 => ?_)
  refine TO.guard_false (s := 32) (b' := false) rfl rfl nofun ?_
  refine rdx (rd_pick_false (v := .bool _) rfl rfl) ?_
  refine rdx (rd_assign (v := .bool _) rfl) ?_
  refine TO.nil (TQ.then_normal (T.ret ?_))
  refine TQ.value ?_ (res1 Tryz.results39 (Res.tmp (v := .bool _) rfl)) _ (.inl rfl)
  show Value.bool _ = Value.bool _; simp [isOf, h4]
 refine DG.rdg rfl rfl rfl (fun _ _ => rfl) (fun _ _ => rd_move (v := .int _ _) rfl) ?_
 refine DG.rdg rfl rfl rfl (fun _ _ => rfl) (fun _ _ => rd_move (v := .int _ _) rfl) ?_
 refine DG.rdg rfl rfl rfl (fun _ _ => rfl) (fun _ _ => rd_eql rfl rfl) ?_
 refine DG.rd rfl rfl rfl (fun _ _ => rd_pick_true (v := .bool _) rfl rfl) ?_
 refine DG.rd rfl rfl rfl (fun _ _ => rd_move (v := .bool _) rfl) ?_
 refine DG.decide_ft 8 rfl (fun h5 => ?_) (fun h5 => ?_)
 ·refine DG.offR (b' := false) rfl rfl rfl (fun _ _ => rfl) nofun ?_
  refine DG.off (b' := false) rfl rfl rfl (fun _ _ => rfl) nofun ?_
  refine DG.off (b' := false) rfl rfl rfl (fun _ _ => rfl) nofun ?_
  refine DG.off (b' := false) rfl rfl rfl (fun _ _ => rfl) nofun ?_
  refine DG.off (b' := false) rfl rfl rfl (fun _ _ => rfl) nofun ?_
  refine DG.off (b' := false) rfl rfl rfl (fun _ _ => rfl) nofun ?_
  refine DG.off (b' := false) rfl rfl rfl (fun _ _ => rfl) nofun ?_
  refine DG.off (b' := false) rfl rfl rfl (fun _ _ => rfl) nofun ?_
  refine DG.done rfl (by decide) rfl (fun gh9 => ?_)
  refine TO.guard_false (s := 32) (b' := false) rfl rfl nofun ?_
  refine rdx (rd_pick_false (v := .bool _) rfl rfl) ?_
  refine rdx (rd_assign (v := .bool _) rfl) ?_
  refine TO.nil (TQ.then_normal (T.ret ?_))
  refine TQ.value ?_ (res1 Tryz.results39 (Res.tmp (v := .bool _) rfl)) _ (.inl rfl)
  show Value.bool _ = Value.bool _; simp [isOf, h4, h5]
 refine DG.fnxg rfl rfl rfl (fun _ _ => rfl) Tryz.enters11 (c_ref15_Keys) (fun _ _ => rfl) Reads0 ?_
 refine DG.rdg rfl rfl rfl (fun _ _ => rfl) (fun _ _ => rd_load_agg (cs := #[.int _ _, .int _ _, .int _ _, .int _ _, .int _ _, .int _ _, .int _ _, .int _ _, .string _]) Tryz.agg30 rfl (Has.own 1 rfl) rfl rfl) ?_
 refine DG.rdg rfl rfl rfl (fun _ _ => rfl) (fun _ _ => rd_move (v := .slice _ _ _) rfl) ?_
 refine DG.rdg rfl rfl rfl (fun _ _ => rfl) (fun _ _ => rd_move (v := .int _ _) rfl) ?_
 refine DG.rdg rfl rfl rfl (fun _ _ => rfl) (fun _ _ => rd_move (v := .int _ _) rfl) ?_
 refine DG.fnpg rfl rfl rfl (fun _ _ => rfl) Tryz.enters15 (fun ρ => c_wish_Valid (ρ 9).1 (ρ 9).2 10 (keysN 10) (by first | rfl | simp [keysN_len]) (w) _ _ _ l (by first | rfl | simp | omega) (nu) (t) (by first | omega | assumption | (simp only [keysN_len]; omega) | (simp only [List.length_drop, List.length_take, List.length_set, keysN_len]; omega)) (by first | omega | assumption | (simp; done) | (simp only [List.length_drop, List.length_take, List.length_append]; omega))) (fun _ _ => rfl) (fun ρ M hM => (ReadsC (Has.arg 0 rfl) (ReadsC (row_slc' (e := eStr) (xs := (keysN 10)) (fun _ => rfl) (by first | rfl | simp [keysN_len]) (by first | rfl | exact bytesC_flat _) (Has.fromM 9 (hM 9 rfl))) (ReadsC (Has.appR (Has.arg 1 rfl)) Reads0)))) ?_
 refine DG.rdg rfl rfl rfl (fun _ _ => rfl) (fun _ _ => rd_move (v := .int _ _) rfl) ?_
 refine DG.rdg rfl rfl rfl (fun _ _ => rfl) (fun _ _ => rd_eql rfl rfl) ?_
 refine DG.done rfl (by decide) rfl (fun gh7 => ?_)
 refine TO.guard_true (s := 32) rfl rfl ?_
 refine rdx (rd_eqb Tryz.under4 rfl rfl) ?_
 refine rdx (rd_pick_true (v := .bool _) rfl rfl) ?_
 refine rdx (rd_assign (v := .bool _) rfl) ?_
 refine TO.nil (TQ.then_normal (T.ret ?_))
 refine TQ.value ?_ (res1 Tryz.results39 (Res.tmp (v := .bool _) rfl)) _ (.inl rfl)
 show Value.bool _ = Value.bool _; simp [isOf, h4, h5]
end Go.Proofs
end
section
set_option linter.unusedVariables false
set_option linter.unusedSimpArgs false
set_option maxRecDepth 100000
set_option maxHeartbeats 800000
namespace Go.Proofs
open Go.TL
attribute [local irreducible] Go.TL.T Go.TL.TO Go.TL.TQ
theorem Tryz.enters62 : Enters Tryz.prog 62 := fun args w => by kernel_rfl
theorem Tryz.enters63 : Enters Tryz.prog 63 := fun args w => by kernel_rfl
end Go.Proofs
end
section
set_option linter.unusedVariables false
set_option linter.unusedSimpArgs false
set_option maxRecDepth 100000
set_option maxHeartbeats 800000
namespace Go.Proofs
open Go.TL
attribute [local irreducible] Go.TL.T Go.TL.TO Go.TL.TQ
theorem c_wish_Encode (w : Wish) (A : Option Addr) (cap n : Nat) (l : List Proxy) (hn : n = l.length) (hl : l.length ≤ 4611686018427387904) : Cv Tryz.prog 24 #[wishV w, .slice A n cap] [slc proxyL 7 A l] (.tuple #[.string (str (encode w l).1), .int .i64 (encode w l).2]) := by
 subst hn
 refine Ctr.intro Tryz.func24 rfl Tryz.ntmps24 (Nat.le_of_ble_eq_true rfl) fun S0 w0 => ?_
 refine T.seq (T.region ?_)
 refine TO.box (v := .agg #[.int _ _, .int _ _, .int _ _, .int _ _, .int _ _, .int _ _, .int _ _, .int _ _, .string _]) rfl (fun b1 => ?_)
 refine rdx (rd_assign (v := .string _) rfl) ?_
 refine rdx (rd_assign (v := .int _ _) rfl) ?_
 refine TO.nil (TQ.then_normal (T.seq (T.region ?_)))
 refine rdx (rd_assign (v := .func _ _ _) rfl) ?_
 refine TO.nil (TQ.then_normal (T.seq (T.seq (T.region ?_))))
 refine rdx (rd_load_agg (cs := #[.int _ _, .int _ _, .int _ _, .int _ _, .int _ _, .int _ _, .int _ _, .int _ _, .string _]) Tryz.agg30 rfl (Has.own 0 rfl) rfl rfl) ?_
 refine rdx (rd_move (v := .slice _ _ _) rfl) ?_
 refine TO.fn Tryz.enters17 (c_wish_Formed _ _ _ _ l (by first | rfl | simp | omega) (by first | omega | assumption | simp)) rfl (ReadsC (Has.arg 0 rfl) Reads0) ?_
 refine rdx (rd_not rfl) ?_
 refine rdx (rd_move (v := .bool _) rfl) ?_
 refine TO.decide (s := 14) rfl (fun h2 => ?_) (fun h2 => ?_)
 ·try simp only [nrm] at h2
  refine TO.guard_false (s := 14) (b' := true) rfl rfl nofun ?_
  refine TO.guard_false (s := 14) (b' := true) rfl rfl nofun ?_
  refine TO.guard_false (s := 14) (b' := true) rfl rfl nofun ?_
  refine TO.guard_false (s := 14) (b' := true) rfl rfl nofun ?_
  refine rdx (rd_pick_true (v := .bool _) rfl rfl) ?_
  refine rdx (rd_move (v := .bool _) rfl) ?_
  refine TO.guard_false (s := 20) (b' := true) rfl rfl nofun ?_
  refine TO.guard_false (s := 20) (b' := true) rfl rfl nofun ?_
  refine TO.guard_false (s := 20) (b' := true) rfl rfl nofun ?_
  refine rdx (rd_pick_true (v := .bool _) rfl rfl) ?_
  refine TO.nil (TQ.then_normal ?_)
  refine T.cond_true rfl ?_
  refine T.seq (T.region ?_)
  refine rdx (rd_assign (v := .string _) rfl) ?_
  refine rdx (rd_assign (v := .int _ _) rfl) ?_
  refine TO.nil (TQ.then_normal (T.ret (TQ.then_ret ?_)))
  refine TQ.value ?_ (res2 Tryz.results24 (Res.tmp (v := .string _) rfl) (Res.tmp (v := .int _ _) rfl)) _ (.inl rfl)
  rw [encode, if_neg (by rintro ⟨e1, e2, e3⟩; first | omega | simp_all)]; rfl
 try simp only [nrm] at h2
 refine TO.guard_true (s := 14) rfl rfl ?_
 refine rdx (rd_fieldAddr Tryz.field30_6 rfl) ?_
 refine TO.guard_true (s := 14) rfl rfl ?_
 refine rdx (rd_load (v := .string _) Tryz.one9 rfl (Has.own 0 rfl) rfl) ?_
 refine TO.guard_true (s := 14) rfl rfl ?_
 refine rdx (rd_lens' Tryz.under9 rfl) ?_
 refine TO.guard_true (s := 14) rfl rfl ?_
 refine rdx (rd_neq rfl rfl) ?_
 refine rdx (rd_pick_false (v := .bool _) rfl rfl) ?_
 refine rdx (rd_move (v := .bool _) rfl) ?_
 refine TO.decide (s := 20) rfl (fun h3 => ?_) (fun h3 => ?_)
 ·try simp only [nrm] at h3
  refine TO.guard_false (s := 20) (b' := true) rfl rfl nofun ?_
  refine TO.guard_false (s := 20) (b' := true) rfl rfl nofun ?_
  refine TO.guard_false (s := 20) (b' := true) rfl rfl nofun ?_
  refine rdx (rd_pick_true (v := .bool _) rfl rfl) ?_
  refine TO.nil (TQ.then_normal ?_)
  refine T.cond_true rfl ?_
  refine T.seq (T.region ?_)
  refine rdx (rd_assign (v := .string _) rfl) ?_
  refine rdx (rd_assign (v := .int _ _) rfl) ?_
  refine TO.nil (TQ.then_normal (T.ret (TQ.then_ret ?_)))
  refine TQ.value ?_ (res2 Tryz.results24 (Res.tmp (v := .string _) rfl) (Res.tmp (v := .int _ _) rfl)) _ (.inl rfl)
  rw [encode, if_neg (by rintro ⟨e1, e2, e3⟩; first | omega | simp_all)]; rfl
 try simp only [nrm] at h3
 refine TO.guard_true (s := 20) rfl rfl ?_
 refine rdx (rd_move (v := .slice _ _ _) rfl) ?_
 refine TO.guard_true (s := 20) rfl rfl ?_
 refine rdx (rd_move (v := .func _ _ _) rfl) ?_
 refine TO.guard_true (s := 20) rfl rfl ?_
 refine TO.fn Tryz.enters63 (c_ContainsFuncP _ _ _ l (by first | rfl | simp | omega) _ (fun x => !(x.sig.length == 32)) Tryz.enters62 (fun x => c_Encode1 x) (by first | omega | simp)) rfl (ReadsC (Has.arg 0 rfl) Reads0) ?_
 refine rdx (rd_pick_false (v := .bool _) rfl rfl) ?_
 refine TO.nil (TQ.then_normal ?_)
 refine T.cond rfl (fun h4 => ?_) (fun h4 => ?_)
 ·try simp only [nrm] at h4
  refine T.seq (T.region ?_)
  refine rdx (rd_assign (v := .string _) rfl) ?_
  refine rdx (rd_assign (v := .int _ _) rfl) ?_
  refine TO.nil (TQ.then_normal (T.ret (TQ.then_ret ?_)))
  refine TQ.value ?_ (res2 Tryz.results24 (Res.tmp (v := .string _) rfl) (Res.tmp (v := .int _ _) rfl)) _ (.inl rfl)
  rw [encode, if_neg (by rintro ⟨e1, e2, e3⟩; exact absurd (ixInt_neg.2 (sigs_ok.2 e3)) (Int.not_lt.2 h4))]; rfl
 try simp only [nrm] at h4
 refine T.skip (TQ.then_normal (T.seq (T.region ?_)))
 refine TO.alloc Tryz.zero102 (fun b5 => ?_)
 refine TO.tobld (e := 5) ?_
 refine TO.nil (TQ.then_normal (T.seq (T.region ?_)))
 refine rdx (rd_move (v := .slice _ _ _) rfl) ?_
 refine rdx (rd_lensl Tryz.under31 rfl) ?_
 have hso : l.all (fun p => p.sig.length == 32) = true := sigs_ok.1 (ixInt_neg.1 h4)
 have hfo := formedOk_len (w := w) (l := l) (by simp_all)
 have hwt := wishText_len w
 refine TO.buildS (cs := [.int _ _]) Tryz.under110 Tryz.size3 Tryz.zero3 (Nat.le_of_ble_eq_true rfl) rfl (fun b6 => ?_)
 refine TO.front1 ?_
 refine TO.hand Tryz.enters64 rfl (c_numbers _ _ _ _ _ [(l.length : Int)] (by first | rfl | simp) (by simp) (by first | omega | exact Nat.zero_le _)) rfl rfl (ReadsC (own_slc (e := eInt) [(l.length : Int)] rfl (fun _ => rfl) (Has.own 0 rfl) (by simp)) Reads0) (fun _ hx7 => ?_)
 refine TO.bld_eq ((puts [(l.length : Int)] ++ (l.take 0).flatMap (fun p => proxyText p ++ p.sig))) (by simp) ?_
 refine TO.nil (TQ.then_normal (T.seq (T.seq (T.region ?_))))
 refine rdx (rd_move (v := .slice _ _ _) rfl) ?_
 refine rdx (rd_lensl Tryz.under31 rfl) ?_
 refine rdx (rd_move (v := .int _ _) rfl) ?_
 refine TO.nil (TQ.then_normal (T.block ?_))
 refine T.loop1 [2, 7, 29, 30] (fun (k : Nat) => [(31, .int .i64 (k : Nat))]) (fun (k : Nat) => [bld 5 102 b5 (puts [(l.length : Int)] ++ (l.take k).flatMap (fun p => proxyText p ++ p.sig))]) (fun (k : Nat) => k ≤ l.length) (fun (k : Nat) => l.length - k) (0) (Nat.zero_le _) (And.intro (rfl) (trivial)) (fun _ _ h => h) fun k g0 hx0 => ?_
 have hsk := seals_len (all_take hso k)
 have hpk : (l.take k).length ≤ 4 := by rw [List.length_take]; omega
 have hpl := puts_length [(l.length : Int)]
 simp only [List.length_cons, List.length_nil] at hpl
 refine T.seq (T.region ?_)
 refine rdx (rd_lss rfl rfl) ?_
 refine TO.nil (TQ.then_normal (T.seq ?_))
 refine T.cond_ft rfl (fun h8 => ?_) (fun h8 => ?_)
 ·try simp only [nrm] at h8
  refine T.exit (TQ.then_exit (TQ.then_exit (TQ.block_out (TQ.then_normal (T.seq (T.region ?_))))))
  refine rdx (rd_load_agg (cs := #[.int _ _, .int _ _, .int _ _, .int _ _, .int _ _, .int _ _, .int _ _, .int _ _, .string _]) Tryz.agg30 rfl (Has.own 2 rfl) rfl rfl) ?_
  refine TO.hand Tryz.enters54 rfl (c_writer_wish _ _ _ (by first | omega | (simp only [List.length_nil]; omega) | exact Nat.zero_le _ | (simp only [List.length_append]; omega))) rfl rfl Reads0 (fun _ hx12 => ?_)
  refine TO.nil (TQ.then_normal (T.seq (T.region ?_)))
  refine rdx (rd_fieldAddr Tryz.field102_0 rfl) ?_
  refine rdx (rd_fieldAddr Tryz.field30_6 rfl) ?_
  refine rdx (rd_load (v := .string _) Tryz.one9 rfl (Has.own 2 rfl) rfl) ?_
  refine TO.hand Tryz.enters65 rfl (c_WriteString _ _ _ _ (by first | exact Tryz.lies102_100 | exact Tryz.lies100_100) (by first | omega | exact wishText_le _ | exact proxyText_le _ | exact puts3_le _ _ _ | (simp only [List.length_append, List.length_cons, List.length_nil, sha_len, leafOf_len, nodeOf_len, sealOf_len, List.length_take, List.length_drop]; omega) | (rw [keyB_len]; omega))) rfl rfl Reads0 (fun _ hx13 => ?_)
  refine TO.nil (TQ.then_normal (T.seq (T.region ?_)))
  refine rdx (rd_fieldAddr Tryz.field102_0 rfl) ?_
  refine TO.hand Tryz.enters66 rfl (c_String _ _ _ (by rw [List.append_assoc, List.append_assoc]; exact List.append_ne_nil_of_left_ne_nil (puts_ne (by omega) (by omega)) _)) rfl rfl Reads0 (fun _ hx14 => ?_)
  refine rdx (rd_assign (v := .string _) rfl) ?_
  refine rdx (rd_assign (v := .int _ _) rfl) ?_
  refine TO.nil (TQ.then_normal (T.ret ?_))
  refine TQ.value ?_ (res2 Tryz.results24 (Res.tmp (v := .string _) rfl) (Res.tmp (v := .int _ _) rfl)) _ (.inl rfl)
  rw [encode, if_pos ⟨by simp_all, by omega, hso⟩, encText, List.take_of_length_le (by omega)]
 try simp only [nrm] at h8
 refine T.skip (TQ.then_normal (T.seq (T.block (T.seq (T.region ?_)))))
 refine rdx (rd_ix Tryz.under31 Tryz.size40 rfl rfl (Has.arg 0 rfl) rfl (by omega) (by omega)) ?_
 refine rdx (rd_ela (cs := [.int _ _, .int _ _, .int _ _, .int _ _, .int _ _, .int _ _, .string _]) _ 0 Tryz.agg40 rfl (Has.arg 0 rfl) rfl (by omega) (Nat.le_of_ble_eq_true rfl) rfl rfl rfl) ?_
 have hpt := proxyText_len (l[k]'(by omega))
 have hsg := all_at hso (k := k) (by omega)
 refine TO.alloc Tryz.zero40 (fun b9 => ?_)
 refine TO.store0 (cells' := #[.int _ _, .int _ _, .int _ _, .int _ _, .int _ _, .int _ _, .string _]) Tryz.size40 rfl (v := .agg #[.int _ _, .int _ _, .int _ _, .int _ _, .int _ _, .int _ _, .string _]) rfl rfl rfl (Nat.le_of_ble_eq_true rfl) rfl ?_
 refine TO.nil (TQ.then_normal (T.seq (T.region ?_)))
 refine rdx (rd_load_agg (cs := #[.int _ _, .int _ _, .int _ _, .int _ _, .int _ _, .int _ _, .string _]) Tryz.agg40 rfl (Has.own 0 rfl) rfl rfl) ?_
 refine TO.front1 ?_
 refine TO.hand Tryz.enters52 rfl (c_writer_proxy _ _ _ (by first | omega | (simp only [List.length_nil]; omega) | exact Nat.zero_le _ | (simp only [List.length_append]; omega))) rfl rfl Reads0 (fun _ hx10 => ?_)
 refine TO.nil (TQ.then_normal (T.region ?_))
 refine rdx (rd_fieldAddr Tryz.field102_0 rfl) ?_
 refine rdx (rd_fieldAddr Tryz.field40_4 rfl) ?_
 refine rdx (rd_load (v := .string _) Tryz.one9 rfl (Has.own 1 rfl) rfl) ?_
 refine TO.hand Tryz.enters65 rfl (c_WriteString _ _ _ _ (by first | exact Tryz.lies102_100 | exact Tryz.lies100_100) (by first | omega | exact wishText_le _ | exact proxyText_le _ | exact puts3_le _ _ _ | (simp only [List.length_append, List.length_cons, List.length_nil, sha_len, leafOf_len, nodeOf_len, sealOf_len, List.length_take, List.length_drop]; omega) | (rw [keyB_len]; omega))) rfl rfl Reads0 (fun _ hx11 => ?_)
 refine TO.bld_eq ((puts [(l.length : Int)] ++ (l.take (k + 1)).flatMap (fun p => proxyText p ++ p.sig))) (by rw [← take_snoc (by omega), List.flatMap_append]; simp [List.append_assoc]) ?_
 refine TO.nil (TQ.block_normal (TQ.then_normal (T.region ?_)))
 refine rdx (rd_add rfl rfl (w64 (by omega) (by omega))) ?_
 refine rdx (rd_move (v := .int _ _) rfl) ?_
 refine TO.nil ?_
 refine TQ.againk (k + 1) ?_ ?_ (And.intro (rfl) (trivial)) (And.intro (rfl) (And.intro (rfl) (And.intro (rfl) (And.intro (rfl) (trivial))))) (fun _ _ h => h.sel (js := [0, 2, 3]) (by decide))
 ·first | omega | (dsimp only; omega)
 ·first | omega | (dsimp only; omega)
end Go.Proofs
end
section
set_option linter.unusedVariables false
set_option linter.unusedSimpArgs false
set_option maxRecDepth 100000
set_option maxHeartbeats 800000
namespace Go.Proofs
open Go.TL
attribute [local irreducible] Go.TL.T Go.TL.TO Go.TL.TQ
end Go.Proofs
end
section
set_option linter.unusedVariables false
set_option linter.unusedSimpArgs false
set_option maxRecDepth 100000
set_option maxHeartbeats 800000
namespace Go.Proofs
open Go.TL
attribute [local irreducible] Go.TL.T Go.TL.TO Go.TL.TQ
theorem c_ref15_SameProxies (A : Option Addr) (cap n : Nat) (a : List Proxy) (hn : n = a.length) (B : Option Addr) (capb m : Nat) (b : List Proxy) (hm : m = b.length) (ha : a.length ≤ 4611686018427387904) : Cv Tryz.prog 28 #[.slice A n cap, .slice B m capb] [slc proxyL 7 A a, slc proxyL 7 B b] (.bool (decide (a = b))) := by
 subst hn hm
 refine Ctr.intro Tryz.func28 rfl Tryz.ntmps28 (Nat.le_of_ble_eq_true rfl) fun S0 w0 => ?_
 refine T.seq (T.region ?_)
 refine rdx (rd_assign (v := .bool _) rfl) ?_
 refine TO.nil (TQ.then_normal (T.seq (T.seq (T.region ?_))))
 refine rdx (rd_move (v := .slice _ _ _) rfl) ?_
 refine rdx (rd_lensl Tryz.under31 rfl) ?_
 refine rdx (rd_move (v := .slice _ _ _) rfl) ?_
 refine rdx (rd_lensl Tryz.under31 rfl) ?_
 refine rdx (rd_neq rfl rfl) ?_
 refine TO.nil (TQ.then_normal ?_)
 refine T.cond rfl (fun h1 => ?_) (fun h1 => ?_)
 ·try simp only [nrm] at h1
  refine T.seq (T.region ?_)
  refine rdx (rd_assign (v := .bool _) rfl) ?_
  refine TO.nil (TQ.then_normal (T.ret (TQ.then_ret ?_)))
  refine TQ.value ?_ (res1 Tryz.results28 (Res.tmp (v := .bool _) rfl)) _ (.inl rfl)
  rw [decide_eq_false (by intro e; subst e; omega)]
 try simp only [nrm] at h1
 refine T.skip (TQ.then_normal (T.seq (T.seq (T.region ?_))))
 refine rdx (rd_assign (v := .int _ _) rfl) ?_
 refine TO.nil (TQ.then_normal (T.block ?_))
 refine T.loop1 [0, 1] (fun (k : Nat) => [(5, .int .i64 (k : Nat))]) (fun (k : Nat) => []) (fun (k : Nat) => k ≤ a.length ∧ a.take k = b.take k) (fun (k : Nat) => a.length - k) (0) (⟨Nat.zero_le _, rfl⟩) (And.intro (rfl) (trivial)) (fun _ _ h => h) fun k g0 hx0 => ?_
 obtain ⟨hk, hk0⟩ := hx0
 refine T.seq (T.seq (T.region ?_))
 refine rdx (rd_move (v := .int _ _) rfl) ?_
 refine rdx (rd_move (v := .slice _ _ _) rfl) ?_
 refine rdx (rd_lensl Tryz.under31 rfl) ?_
 refine rdx (rd_lss rfl rfl) ?_
 refine TO.nil (TQ.then_normal ?_)
 refine T.cond_ft rfl (fun h2 => ?_) (fun h2 => ?_)
 ·try simp only [nrm] at h2
  refine T.exit (TQ.then_exit (TQ.then_exit (TQ.block_out (TQ.then_normal (T.seq (T.region ?_))))))
  refine rdx (rd_assign (v := .bool _) rfl) ?_
  refine TO.nil (TQ.then_normal (T.ret ?_))
  refine TQ.value ?_ (res1 Tryz.results28 (Res.tmp (v := .bool _) rfl)) _ (.inl rfl)
  rw [decide_eq_true (by have h1 := hk0; rw [List.take_of_length_le (by omega), List.take_of_length_le (by omega)] at h1; exact h1)]
 try simp only [nrm] at h2
 refine T.skip (TQ.then_normal (T.seq (T.block (T.seq ?_))))
 refine T.drawq Tryz.mixes 8 [(17, 0), (18, 1), (19, 2), (20, 3), (21, 4), (22, 5), (23, 6), (24, 7)] [0, 0, 3, 7, 0, 0, 48, 112, 255] (by kernel_rfl) ?_
 refine DQ.rd rfl rfl (fun _ => rd_move (v := .slice _ _ _) rfl) ?_
 refine DQ.rd rfl rfl (fun _ => rd_move (v := .int _ _) rfl) ?_
 refine DQ.rd rfl rfl (fun _ => rd_ix Tryz.under31 Tryz.size40 rfl rfl (Has.arg 0 rfl) rfl (by omega) (by omega)) ?_
 refine DQ.rd rfl rfl (fun _ => rd_ela (cs := [.int _ _, .int _ _, .int _ _, .int _ _, .int _ _, .int _ _, .string _]) _ 0 Tryz.agg40 rfl (Has.arg 0 rfl) rfl (by omega) (Nat.le_of_ble_eq_true rfl) rfl rfl rfl) ?_
 refine DQ.rd rfl rfl (fun _ => rd_move (v := .slice _ _ _) rfl) ?_
 refine DQ.rd rfl rfl (fun _ => rd_move (v := .int _ _) rfl) ?_
 refine DQ.rd rfl rfl (fun _ => rd_ix Tryz.under31 Tryz.size40 rfl rfl (Has.arg 1 rfl) rfl (by omega) (by omega)) ?_
 refine DQ.rd rfl rfl (fun _ => rd_ela (cs := [.int _ _, .int _ _, .int _ _, .int _ _, .int _ _, .int _ _, .string _]) _ 0 Tryz.agg40 rfl (Has.arg 1 rfl) rfl (by omega) (Nat.le_of_ble_eq_true rfl) rfl rfl rfl) ?_
 refine DQ.done rfl ?_
 refine rdx (rd_nep Tryz.eqty (p := (a[k]'(by omega))) (q := (b[k]'(by omega))) rfl rfl) ?_
 refine TO.nil (TQ.then_normal ?_)
 refine T.cond_ft rfl (fun h3 => ?_) (fun h3 => ?_)
 ·try simp only [nrm] at h3
  refine T.skip (TQ.block_normal (TQ.then_normal (T.region ?_)))
  refine rdx (rd_move (v := .int _ _) rfl) ?_
  refine rdx (rd_add rfl rfl (w64 (by omega) (by omega))) ?_
  refine rdx (rd_assign (v := .int _ _) rfl) ?_
  refine TO.nil ?_
  refine TQ.againk (k + 1) ?_ ?_ (And.intro (rfl) (trivial)) (And.intro (rfl) (And.intro (rfl) (trivial))) (fun _ _ h => h)
  ·exact ⟨by first | omega | (dsimp only; omega), by rw [← take_snoc (by omega), ← take_snoc (by omega), hk0]; simp_all⟩
  ·first | omega | (dsimp only; omega)
 try simp only [nrm] at h3
 refine T.seq (T.region ?_)
 refine rdx (rd_assign (v := .bool _) rfl) ?_
 refine TO.nil (TQ.then_normal (T.ret (TQ.block_ret (TQ.then_ret (TQ.then_ret (TQ.block_ret (TQ.then_ret ?_)))))))
 refine TQ.value ?_ (res1 Tryz.results28 (Res.tmp (v := .bool _) rfl)) _ (.inl rfl)
 rw [decide_eq_false (by intro e; subst e; simp_all)]
end Go.Proofs
end
section
set_option linter.unusedVariables false
set_option linter.unusedSimpArgs false
set_option maxRecDepth 100000
set_option maxHeartbeats 800000
namespace Go.Proofs
open Go.TL
attribute [local irreducible] Go.TL.T Go.TL.TO Go.TL.TQ
theorem c_law15_sane  : Cv Tryz.prog 6 #[] [glob 0 roundC 162] (.bool true) := by
 refine Ctr.intro Tryz.func6 rfl Tryz.ntmps6 (Nat.le_of_ble_eq_true rfl) fun S0 w0 => ?_
 refine T.seq (T.region ?_)
 refine rdx (rd_assign (v := .bool _) rfl) ?_
 refine TO.nil (TQ.then_normal (T.seq (T.region ?_)))
 refine TO.fn Tryz.enters37 (c_law15_wished _) rfl (ReadsC (Has.arg 0 rfl) Reads0) ?_
 refine TO.alloc Tryz.zero30 (fun b1 => ?_)
 refine TO.store0 (cells' := #[.int _ _, .int _ _, .int _ _, .int _ _, .int _ _, .int _ _, .int _ _, .int _ _, .string _]) Tryz.size30 rfl (v := .agg #[.int _ _, .int _ _, .int _ _, .int _ _, .int _ _, .int _ _, .int _ _, .int _ _, .string _]) rfl rfl rfl (Nat.le_of_ble_eq_true rfl) rfl ?_
 refine TO.nil (TQ.then_normal (T.seq (T.region ?_)))
 refine TO.fn Tryz.enters38 (c_law15_granted _) rfl (ReadsC (Has.arg 0 rfl) Reads0) ?_
 refine TO.buildS (cs := [.int _ _, .int _ _, .int _ _, .int _ _, .int _ _, .int _ _, .string _]) Tryz.under31 Tryz.size40 Tryz.zero40 (Nat.le_of_ble_eq_true rfl) rfl (fun b2 => ?_)
 refine rdx (rd_assign (v := .slice _ _ _) rfl) ?_
 refine TO.nil (TQ.then_normal (T.seq (T.region ?_)))
 refine rdx (rd_load_agg (cs := #[.int _ _, .int _ _, .int _ _, .int _ _, .int _ _, .int _ _, .int _ _, .int _ _, .string _]) Tryz.agg30 rfl (Has.own 1 rfl) rfl rfl) ?_
 refine TO.alloc Tryz.zero30 (fun b3 => ?_)
 refine TO.store0 (cells' := #[.int _ _, .int _ _, .int _ _, .int _ _, .int _ _, .int _ _, .int _ _, .int _ _, .string _]) Tryz.size30 rfl (v := .agg #[.int _ _, .int _ _, .int _ _, .int _ _, .int _ _, .int _ _, .int _ _, .int _ _, .string _]) rfl rfl rfl (Nat.le_of_ble_eq_true rfl) rfl ?_
 refine TO.nil (TQ.then_normal (T.seq (T.region ?_)))
 refine rdx (rd_fieldAddr Tryz.field30_3 rfl) ?_
 refine TO.store0 (cells' := #[.int _ _, .int _ _, .int _ _, .int _ _, .int _ _, .int _ _, .int _ _, .int _ _, .string _]) Tryz.size3 rfl (v := .int _ _) rfl rfl rfl (Nat.le_of_ble_eq_true rfl) rfl ?_
 refine TO.nil (TQ.then_normal (T.seq (T.region ?_)))
 refine TO.fn Tryz.enters38 (c_law15_granted _) rfl (ReadsC (Has.arg 0 rfl) Reads0) ?_
 refine TO.buildS (cs := [.int _ _, .int _ _, .int _ _, .int _ _, .int _ _, .int _ _, .string _]) Tryz.under31 Tryz.size40 Tryz.zero40 (Nat.le_of_ble_eq_true rfl) rfl (fun b4 => ?_)
 refine rdx (rd_assign (v := .slice _ _ _) rfl) ?_
 refine TO.nil (TQ.then_normal (T.seq (T.region ?_)))
 refine rdx (rd_move (v := .slice _ _ _) rfl) ?_
 refine rdx (rd_indexAddr (k := 0) Tryz.under31 Tryz.size40 rfl rfl rfl (by omega)) ?_
 refine rdx (rd_fieldAddr Tryz.field40_3 rfl) ?_
 refine rdx (rd_fieldAddr Tryz.field28_1 rfl) ?_
 refine TO.store0 (cells' := #[.int _ _, .int _ _, .int _ _, .int _ _, .int _ _, .int _ _, .string _]) Tryz.size3 rfl (v := .int _ _) rfl rfl rfl (Nat.le_of_ble_eq_true rfl) rfl ?_
 refine TO.nil (TQ.then_normal (T.seq (T.region ?_)))
 refine TO.fn Tryz.enters19 (c_ref15_Key _) rfl Reads0 ?_
 refine TO.fn Tryz.enters29 (c_wish_Account (keyB 3) (1100) (1) (by first | (rw [keyB_len]; omega) | omega | assumption)) rfl (ReadsC (Has.arg 0 rfl) Reads0) ?_
 refine rdx (rd_move (v := .tuple _) rfl) ?_
 refine rdx (rd_extract (v := .string _) (vs := _) rfl rfl) ?_
 refine rdx (rd_extract (v := .int _ _) (vs := _) rfl rfl) ?_
 refine rdx (rd_assign (v := .string _) rfl) ?_
 refine rdx (rd_assign (v := .int _ _) rfl) ?_
 refine TO.nil (TQ.then_normal (T.seq (T.region ?_)))
 refine rdx (rd_load_agg (cs := #[.int _ _, .int _ _, .int _ _, .int _ _, .int _ _, .int _ _, .int _ _, .int _ _, .string _]) Tryz.agg30 rfl (Has.own 3 rfl) rfl rfl) ?_
 refine rdx (rd_move (v := .slice _ _ _) rfl) ?_
 refine TO.fn Tryz.enters24 (c_wish_Encode (sw 200) _ _ _ [sp 500] (by first | rfl | simp | omega) (by first | omega | assumption | simp)) rfl (ReadsC (own_slc (e := proxyL) (sz := 7) [sp 500] rfl (fun _ => rfl) (Has.own 2 rfl) (by simp)) Reads0) ?_
 refine rdx (rd_move (v := .tuple _) rfl) ?_
 refine rdx (rd_extract (v := .string _) (vs := _) rfl rfl) ?_
 refine rdx (rd_extract (v := .int _ _) (vs := _) rfl rfl) ?_
 refine rdx (rd_assign (v := .string _) rfl) ?_
 refine rdx (rd_assign (v := .int _ _) rfl) ?_
 refine TO.nil (TQ.then_normal (T.seq (T.region ?_)))
 refine rdx (rd_move (v := .string _) rfl) ?_
 refine TO.fnx Tryz.enters26 (c_wish_Decode ((encode (sw 200) [sp 500]).1) (by first | omega | assumption | exact sane_e2)) rfl Reads0 (fun ⟨A5, cap6⟩ hx7 => ?_)
 rw [sane_d]
 refine rdx (rd_move (v := .tuple _) rfl) ?_
 refine rdx (rd_extract (v := .agg _) (vs := _) rfl rfl) ?_
 refine rdx (rd_extract (v := .slice _ _ _) (vs := _) rfl rfl) ?_
 refine rdx (rd_extract (v := .int _ _) (vs := _) rfl rfl) ?_
 refine TO.alloc Tryz.zero30 (fun b9 => ?_)
 refine TO.store0 (cells' := #[.int _ _, .int _ _, .int _ _, .int _ _, .int _ _, .int _ _, .int _ _, .int _ _, .string _]) Tryz.size30 rfl (v := .agg #[.int _ _, .int _ _, .int _ _, .int _ _, .int _ _, .int _ _, .int _ _, .int _ _, .string _]) rfl rfl rfl (Nat.le_of_ble_eq_true rfl) rfl ?_
 refine rdx (rd_assign (v := .slice _ _ _) rfl) ?_
 refine rdx (rd_assign (v := .int _ _) rfl) ?_
 refine TO.nil (TQ.then_normal (T.seq (T.seq (T.region ?_))))
 refine rdx (rd_move (v := .int _ _) rfl) ?_
 refine rdx (rd_neq_false rfl rfl sane_a1) ?_
 refine rdx (rd_move (v := .bool _) rfl) ?_
 refine TO.guard_true (s := 44) rfl rfl ?_
 refine rdx (rd_move (v := .int _ _) rfl) ?_
 refine TO.guard_true (s := 44) rfl rfl ?_
 refine rdx (rd_neq_false rfl rfl sane_e1) ?_
 refine rdx (rd_pick_false (v := .bool _) rfl rfl) ?_
 refine rdx (rd_move (v := .bool _) rfl) ?_
 refine TO.guard_true (s := 48) rfl rfl ?_
 refine rdx (rd_move (v := .int _ _) rfl) ?_
 refine TO.guard_true (s := 48) rfl rfl ?_
 refine rdx (rd_neq_false rfl rfl rfl) ?_
 refine rdx (rd_pick_false (v := .bool _) rfl rfl) ?_
 refine rdx (rd_move (v := .bool _) rfl) ?_
 refine TO.guard_true (s := 52) rfl rfl ?_
 refine rdx (rd_fieldAddr Tryz.field30_6 rfl) ?_
 refine TO.guard_true (s := 52) rfl rfl ?_
 refine rdx (rd_load (v := .string _) Tryz.one9 rfl (Has.own 5 rfl) rfl) ?_
 refine TO.guard_true (s := 52) rfl rfl ?_
 refine rdx (rd_lens' Tryz.under9 rfl) ?_
 refine TO.guard_true (s := 52) rfl rfl ?_
 refine rdx (rd_neq_false rfl rfl sane_s1) ?_
 refine rdx (rd_pick_false (v := .bool _) rfl rfl) ?_
 refine rdx (rd_move (v := .bool _) rfl) ?_
 refine TO.guard_true (s := 58) rfl rfl ?_
 refine rdx (rd_move (v := .slice _ _ _) rfl) ?_
 refine TO.guard_true (s := 58) rfl rfl ?_
 refine rdx (rd_indexAddr (k := 0) Tryz.under31 Tryz.size40 rfl rfl rfl (by omega)) ?_
 refine TO.guard_true (s := 58) rfl rfl ?_
 refine rdx (rd_fieldAddr Tryz.field40_4 rfl) ?_
 refine TO.guard_true (s := 58) rfl rfl ?_
 refine rdx (rd_load (v := .string _) Tryz.one9 rfl (Has.own 4 rfl) rfl) ?_
 refine TO.guard_true (s := 58) rfl rfl ?_
 refine rdx (rd_lens' Tryz.under9 rfl) ?_
 refine TO.guard_true (s := 58) rfl rfl ?_
 refine rdx (rd_neq_false rfl rfl sane_s2) ?_
 refine rdx (rd_pick_false (v := .bool _) rfl rfl) ?_
 refine rdx (rd_move (v := .bool _) rfl) ?_
 refine TO.guard_true (s := 66) rfl rfl ?_
 refine rdx (rd_move (v := .string _) rfl) ?_
 refine TO.guard_true (s := 66) rfl rfl ?_
 refine rdx (rd_lens' Tryz.under9 rfl) ?_
 refine TO.guard_true (s := 66) rfl rfl ?_
 refine rdx (rd_neq_false rfl rfl sane_a2) ?_
 refine rdx (rd_pick_false (v := .bool _) rfl rfl) ?_
 refine TO.nil (TQ.then_normal ?_)
 refine T.cond_false rfl ?_
 refine T.skip (TQ.then_normal (T.seq (T.region ?_)))
 refine rdx (rd_load_agg (cs := #[.int _ _, .int _ _, .int _ _, .int _ _, .int _ _, .int _ _, .int _ _, .int _ _, .string _]) Tryz.agg30 rfl (Has.own 5 rfl) rfl rfl) ?_
 refine rdx (rd_move (v := .slice _ _ _) rfl) ?_
 refine TO.fn Tryz.enters39 (cv_b (c_law15_is (sw 200) _ _ _ [sp 500] (by first | rfl | simp | omega) (1100) (150) (0) (-1) (by first | omega | assumption | simp)) (isOf_of_why sane_w1)) rfl (ReadsC (Has.arg 0 rfl) (ReadsC (own_slc (e := proxyL) (sz := 7) [sp 500] rfl (fun _ => rfl) (Has.own 4 rfl) (by simp)) Reads0)) ?_
 refine rdx (rd_move (v := .bool _) rfl) ?_
 refine TO.guard_true (s := 74) rfl rfl ?_
 refine rdx (rd_load_agg (cs := #[.int _ _, .int _ _, .int _ _, .int _ _, .int _ _, .int _ _, .int _ _, .int _ _, .string _]) Tryz.agg30 rfl (Has.own 5 rfl) rfl rfl) ?_
 refine TO.guard_true (s := 74) rfl rfl ?_
 refine rdx (rd_move (v := .slice _ _ _) rfl) ?_
 refine TO.guard_true (s := 74) rfl rfl ?_
 refine TO.fn Tryz.enters39 (cv_b (c_law15_is (sw 200) _ _ _ [sp 500] (by first | rfl | simp | omega) (1199) (199) (0) (-1) (by first | omega | assumption | simp)) (isOf_of_why sane_w2)) rfl (ReadsC (Has.arg 0 rfl) (ReadsC (own_slc (e := proxyL) (sz := 7) [sp 500] rfl (fun _ => rfl) (Has.own 4 rfl) (by simp)) Reads0)) ?_
 refine rdx (rd_pick_true (v := .bool _) rfl rfl) ?_
 refine rdx (rd_assign (v := .bool _) rfl) ?_
 refine TO.nil (TQ.then_normal (T.seq (T.region ?_)))
 refine rdx (rd_load_agg (cs := #[.int _ _, .int _ _, .int _ _, .int _ _, .int _ _, .int _ _, .int _ _, .int _ _, .string _]) Tryz.agg30 rfl (Has.own 5 rfl) rfl rfl) ?_
 refine rdx (rd_move (v := .slice _ _ _) rfl) ?_
 refine TO.fn Tryz.enters39 (cv_b (c_law15_is (sw 200) _ _ _ [sp 500] (by first | rfl | simp | omega) (1200) (150) (3) (-1) (by first | omega | assumption | simp)) (isOf_of_why sane_w3)) rfl (ReadsC (Has.arg 0 rfl) (ReadsC (own_slc (e := proxyL) (sz := 7) [sp 500] rfl (fun _ => rfl) (Has.own 4 rfl) (by simp)) Reads0)) ?_
 refine rdx (rd_move (v := .bool _) rfl) ?_
 refine TO.guard_true (s := 82) rfl rfl ?_
 refine rdx (rd_load_agg (cs := #[.int _ _, .int _ _, .int _ _, .int _ _, .int _ _, .int _ _, .int _ _, .int _ _, .string _]) Tryz.agg30 rfl (Has.own 5 rfl) rfl rfl) ?_
 refine TO.guard_true (s := 82) rfl rfl ?_
 refine rdx (rd_move (v := .slice _ _ _) rfl) ?_
 refine TO.guard_true (s := 82) rfl rfl ?_
 refine TO.fn Tryz.enters39 (cv_b (c_law15_is (sw 200) _ _ _ [sp 500] (by first | rfl | simp | omega) (1100) (200) (2) (-1) (by first | omega | assumption | simp)) (isOf_of_why sane_w4)) rfl (ReadsC (Has.arg 0 rfl) (ReadsC (own_slc (e := proxyL) (sz := 7) [sp 500] rfl (fun _ => rfl) (Has.own 4 rfl) (by simp)) Reads0)) ?_
 refine rdx (rd_pick_true (v := .bool _) rfl rfl) ?_
 refine rdx (rd_move (v := .bool _) rfl) ?_
 refine TO.guard_true (s := 87) rfl rfl ?_
 refine rdx (rd_load_agg (cs := #[.int _ _, .int _ _, .int _ _, .int _ _, .int _ _, .int _ _, .int _ _, .int _ _, .string _]) Tryz.agg30 rfl (Has.own 5 rfl) rfl rfl) ?_
 refine TO.guard_true (s := 87) rfl rfl ?_
 refine rdx (rd_move (v := .slice _ _ _) rfl) ?_
 refine TO.guard_true (s := 87) rfl rfl ?_
 refine TO.fn Tryz.enters39 (cv_b (c_law15_is (sw 200) _ _ _ [sp 500] (by first | rfl | simp | omega) (1200) (200) (2) (-1) (by first | omega | assumption | simp)) (isOf_of_why sane_w5)) rfl (ReadsC (Has.arg 0 rfl) (ReadsC (own_slc (e := proxyL) (sz := 7) [sp 500] rfl (fun _ => rfl) (Has.own 4 rfl) (by simp)) Reads0)) ?_
 refine rdx (rd_pick_true (v := .bool _) rfl rfl) ?_
 refine rdx (rd_move (v := .bool _) rfl) ?_
 refine TO.guard_true (s := 92) rfl rfl ?_
 refine rdx (rd_load_agg (cs := #[.int _ _, .int _ _, .int _ _, .int _ _, .int _ _, .int _ _, .int _ _, .int _ _, .string _]) Tryz.agg30 rfl (Has.own 5 rfl) rfl rfl) ?_
 refine TO.guard_true (s := 92) rfl rfl ?_
 refine TO.fn Tryz.enters39 (cv_b (c_law15_is (sw 200) _ _ _ [] (by first | rfl | simp | omega) (1100) (150) (4) (-1) (by first | omega | assumption | simp)) (isOf_of_why sane_w6)) rfl (ReadsC (Has.arg 0 rfl) (ReadsC Has.nilslc Reads0)) ?_
 refine rdx (rd_pick_true (v := .bool _) rfl rfl) ?_
 refine rdx (rd_move (v := .bool _) rfl) ?_
 refine TO.guard_true (s := 96) rfl rfl ?_
 refine TO.fn Tryz.enters37 (c_law15_wished _) rfl (ReadsC (Has.arg 0 rfl) Reads0) ?_
 refine TO.guard_true (s := 96) rfl rfl ?_
 refine rdx (rd_move (v := .slice _ _ _) rfl) ?_
 refine TO.guard_true (s := 96) rfl rfl ?_
 refine TO.fn Tryz.enters39 (cv_b (c_law15_is (sw 501) _ _ _ [sp 500] (by first | rfl | simp | omega) (1100) (150) (5) (-1) (by first | omega | assumption | simp)) (isOf_of_why sane_w7)) rfl (ReadsC (Has.arg 0 rfl) (ReadsC (own_slc (e := proxyL) (sz := 7) [sp 500] rfl (fun _ => rfl) (Has.own 4 rfl) (by simp)) Reads0)) ?_
 refine rdx (rd_pick_true (v := .bool _) rfl rfl) ?_
 refine rdx (rd_move (v := .bool _) rfl) ?_
 refine TO.guard_true (s := 101) rfl rfl ?_
 refine rdx (rd_load_agg (cs := #[.int _ _, .int _ _, .int _ _, .int _ _, .int _ _, .int _ _, .int _ _, .int _ _, .string _]) Tryz.agg30 rfl (Has.own 3 rfl) rfl rfl) ?_
 refine TO.guard_true (s := 101) rfl rfl ?_
 refine rdx (rd_move (v := .slice _ _ _) rfl) ?_
 refine TO.guard_true (s := 101) rfl rfl ?_
 refine TO.fn Tryz.enters39 (cv_b (c_law15_is (swx) _ _ _ [sp 500] (by first | rfl | simp | omega) (1100) (150) (6) (-1) (by first | omega | assumption | simp)) (isOf_of_why sane_w8)) rfl (ReadsC (Has.arg 0 rfl) (ReadsC (own_slc (e := proxyL) (sz := 7) [sp 500] rfl (fun _ => rfl) (Has.own 4 rfl) (by simp)) Reads0)) ?_
 refine rdx (rd_pick_true (v := .bool _) rfl rfl) ?_
 refine rdx (rd_move (v := .bool _) rfl) ?_
 refine TO.guard_true (s := 106) rfl rfl ?_
 refine rdx (rd_load_agg (cs := #[.int _ _, .int _ _, .int _ _, .int _ _, .int _ _, .int _ _, .int _ _, .int _ _, .string _]) Tryz.agg30 rfl (Has.own 5 rfl) rfl rfl) ?_
 refine TO.guard_true (s := 106) rfl rfl ?_
 refine rdx (rd_move (v := .slice _ _ _) rfl) ?_
 refine TO.guard_true (s := 106) rfl rfl ?_
 refine TO.fn Tryz.enters39 (cv_b (c_law15_is (sw 200) _ _ _ [spx] (by first | rfl | simp | omega) (1100) (150) (6) (0) (by first | omega | assumption | simp)) (isOf_of_why sane_w9)) rfl (ReadsC (Has.arg 0 rfl) (ReadsC (own_slc (e := proxyL) (sz := 7) [spx] rfl (fun _ => rfl) (Has.own 2 rfl) (by simp)) Reads0)) ?_
 refine rdx (rd_pick_true (v := .bool _) rfl rfl) ?_
 refine rdx (rd_move (v := .bool _) rfl) ?_
 refine TO.guard_true (s := 111) rfl rfl ?_
 refine rdx (rd_build (cs := [.int _ _, .int _ _, .int _ _, .int _ _, .int _ _, .int _ _, .int _ _, .int _ _, .string _]) Tryz.places30 Tryz.zero30 rfl rfl) ?_
 refine TO.guard_true (s := 111) rfl rfl ?_
 refine TO.fn Tryz.enters39 (cv_b (c_law15_is (wish0) _ _ _ [] (by first | rfl | simp | omega) (0) (0) (1) (-1) (by first | omega | assumption | simp)) (isOf_of_why sane_w10)) rfl (ReadsC (Has.arg 0 rfl) (ReadsC Has.nilslc Reads0)) ?_
 refine rdx (rd_pick_true (v := .bool _) rfl rfl) ?_
 refine rdx (rd_assign (v := .bool _) rfl) ?_
 refine TO.nil (TQ.then_normal (T.seq (T.region ?_)))
 refine rdx (rd_move (v := .bool _) rfl) ?_
 refine rdx (rd_move (v := .bool _) rfl) ?_
 refine TO.guard_true (s := 116) rfl rfl ?_
 refine rdx (rd_move (v := .bool _) rfl) ?_
 refine rdx (rd_pick_true (v := .bool _) rfl rfl) ?_
 refine rdx (rd_move (v := .bool _) rfl) ?_
 refine TO.guard_true (s := 119) rfl rfl ?_
 refine rdx (rd_load_agg (cs := #[.int _ _, .int _ _, .int _ _, .int _ _, .int _ _, .int _ _, .int _ _, .int _ _, .string _]) Tryz.agg30 rfl (Has.own 0 rfl) rfl rfl) ?_
 refine TO.guard_true (s := 119) rfl rfl ?_
 refine rdx (rd_load_agg (cs := #[.int _ _, .int _ _, .int _ _, .int _ _, .int _ _, .int _ _, .int _ _, .int _ _, .string _]) Tryz.agg30 rfl (Has.own 5 rfl) rfl rfl) ?_
 refine TO.guard_true (s := 119) rfl rfl ?_
 refine rdx (rd_eqw_true Tryz.eqty (p := sw 200) (q := sw 200) rfl rfl rfl) ?_
 refine rdx (rd_pick_true (v := .bool _) rfl rfl) ?_
 refine rdx (rd_move (v := .bool _) rfl) ?_
 refine TO.guard_true (s := 124) rfl rfl ?_
 refine rdx (rd_move (v := .slice _ _ _) rfl) ?_
 refine TO.guard_true (s := 124) rfl rfl ?_
 refine rdx (rd_move (v := .slice _ _ _) rfl) ?_
 refine TO.guard_true (s := 124) rfl rfl ?_
 refine TO.fn Tryz.enters28 (cv_b (c_ref15_SameProxies _ _ _ [sp 500] (by first | rfl | simp | omega) _ _ _ [sp 500] (by first | rfl | simp | omega) (by first | omega | assumption | simp)) (decide_eq_true rfl)) rfl (ReadsC (row_slc' (e := proxyL) (xs := [sp 500]) (fun _ => rfl) (rfl) (rfl) (Has.own 1 rfl)) (ReadsC (own_slc (e := proxyL) (sz := 7) [sp 500] rfl (fun _ => rfl) (Has.own 4 rfl) (by simp)) Reads0)) ?_
 refine rdx (rd_pick_true (v := .bool _) rfl rfl) ?_
 refine rdx (rd_move (v := .bool _) rfl) ?_
 refine TO.guard_true (s := 129) rfl rfl ?_
 refine TO.fn Tryz.enters19 (c_ref15_Key _) rfl Reads0 ?_
 refine TO.guard_true (s := 129) rfl rfl ?_
 refine rdx (rd_move (v := .string _) rfl) ?_
 refine TO.guard_true (s := 129) rfl rfl ?_
 refine TO.fn Tryz.enters31 (cv_b (c_wish_Checks (keyB 3) (1100) (1) ((account (keyB 3) 1100 1).1) (by first | (rw [keyB_len]; omega) | omega | assumption)) (sane_c1)) rfl (ReadsC (Has.arg 0 rfl) Reads0) ?_
 refine rdx (rd_pick_true (v := .bool _) rfl rfl) ?_
 refine rdx (rd_move (v := .bool _) rfl) ?_
 refine TO.guard_true (s := 134) rfl rfl ?_
 refine TO.fn Tryz.enters19 (c_ref15_Key _) rfl Reads0 ?_
 refine TO.guard_true (s := 134) rfl rfl ?_
 refine rdx (rd_move (v := .string _) rfl) ?_
 refine TO.guard_true (s := 134) rfl rfl ?_
 refine TO.fn Tryz.enters31 (cv_b (c_wish_Checks (keyB 4) (1100) (1) ((account (keyB 3) 1100 1).1) (by first | (rw [keyB_len]; omega) | omega | assumption)) (sane_c2)) rfl (ReadsC (Has.arg 0 rfl) Reads0) ?_
 refine TO.guard_true (s := 134) rfl rfl ?_
 refine rdx (rd_not rfl) ?_
 refine rdx (rd_pick_true (v := .bool _) rfl rfl) ?_
 refine rdx (rd_move (v := .bool _) rfl) ?_
 refine TO.guard_true (s := 140) rfl rfl ?_
 refine rdx (rd_load_agg (cs := #[.int _ _, .int _ _, .int _ _, .int _ _, .int _ _, .int _ _, .int _ _, .int _ _, .string _]) Tryz.agg30 rfl (Has.own 5 rfl) rfl rfl) ?_
 refine TO.guard_true (s := 140) rfl rfl ?_
 refine rdx (rd_move (v := .slice _ _ _) rfl) ?_
 refine TO.guard_true (s := 140) rfl rfl ?_
 refine TO.fn Tryz.enters17 (cv_b (c_wish_Formed (sw 200) _ _ _ [sp 500] (by first | rfl | simp | omega) (by first | omega | assumption | simp)) (sane_f1)) rfl (ReadsC (own_slc (e := proxyL) (sz := 7) [sp 500] rfl (fun _ => rfl) (Has.own 4 rfl) (by simp)) Reads0) ?_
 refine rdx (rd_pick_true (v := .bool _) rfl rfl) ?_
 refine rdx (rd_move (v := .bool _) rfl) ?_
 refine TO.guard_true (s := 145) rfl rfl ?_
 refine rdx (rd_build (cs := [.int _ _, .int _ _, .int _ _, .int _ _, .int _ _, .int _ _, .int _ _, .int _ _, .string _]) Tryz.places30 Tryz.zero30 rfl rfl) ?_
 refine TO.guard_true (s := 145) rfl rfl ?_
 refine TO.fn Tryz.enters17 (cv_b (c_wish_Formed (wish0) _ _ _ [] (by first | rfl | simp | omega) (by first | omega | assumption | simp)) (sane_f2)) rfl (ReadsC Has.nilslc Reads0) ?_
 refine TO.guard_true (s := 145) rfl rfl ?_
 refine rdx (rd_not rfl) ?_
 refine rdx (rd_pick_true (v := .bool _) rfl rfl) ?_
 refine rdx (rd_assign (v := .bool _) rfl) ?_
 refine TO.nil (TQ.then_normal (T.ret ?_))
 refine TQ.value ?_ (res1 Tryz.results6 (Res.tmp (v := .bool _) rfl)) _ (.inl rfl)
 rfl
end Go.Proofs
end
section
set_option linter.unusedVariables false
set_option linter.unusedSimpArgs false
set_option maxRecDepth 100000
set_option maxHeartbeats 800000
namespace Go.Proofs
open Go.TL
attribute [local irreducible] Go.TL.T Go.TL.TO Go.TL.TQ
theorem Tryz.agg77 : TyAgg Tryz.prog 77 5 := ⟨fun w => by kernel_rfl, fun w => by kernel_rfl⟩
theorem Tryz.field25_0 : TyField Tryz.prog 25 0 0 := fun a w => by kernel_rfl
theorem Tryz.field25_1 : TyField Tryz.prog 25 1 1 := fun a w => by kernel_rfl
theorem Tryz.field25_2 : TyField Tryz.prog 25 2 3 := fun a w => by kernel_rfl
theorem Tryz.field25_3 : TyField Tryz.prog 25 3 5 := fun a w => by kernel_rfl
theorem Tryz.field25_4 : TyField Tryz.prog 25 4 6 := fun a w => by kernel_rfl
theorem Tryz.field25_5 : TyField Tryz.prog 25 5 7 := fun a w => by kernel_rfl
theorem Tryz.one23 : TyOne Tryz.prog 23 := ⟨fun w => by kernel_rfl, fun w => by kernel_rfl⟩
theorem Tryz.size27 : ∀ w, (sizeOf 27).run Tryz.prog w = .ok 2 w := fun w => by kernel_rfl
theorem Tryz.size28 : ∀ w, (sizeOf 28).run Tryz.prog w = .ok 2 w := fun w => by kernel_rfl
theorem Tryz.size77 : ∀ w, (sizeOf 77).run Tryz.prog w = .ok 5 w := fun w => by kernel_rfl
theorem Tryz.under23 : Tryz.prog.underlying 23 = some (.slice 77) := by kernel_rfl
theorem Tryz.under77 : Tryz.prog.underlying 77 = some (.array 5 3) := by kernel_rfl
theorem Tryz.zero77 : TyZero Tryz.prog 77 (.agg #[.int .i64 0, .int .i64 0, .int .i64 0, .int .i64 0, .int .i64 0]) := fun w => by kernel_rfl
theorem Tryz.enters21 : Enters Tryz.prog 21 := fun args w => by kernel_rfl
theorem Tryz.enters23 : Enters Tryz.prog 23 := fun args w => by kernel_rfl
theorem Tryz.enters41 : Enters Tryz.prog 41 := fun args w => by kernel_rfl
end Go.Proofs
end
section
set_option linter.unusedVariables false
set_option linter.unusedSimpArgs false
set_option maxRecDepth 100000
set_option maxHeartbeats 800000
namespace Go.Proofs
open Go.TL
attribute [local irreducible] Go.TL.T Go.TL.TO Go.TL.TQ
theorem c_ref15_Made (u : Nums) (A : Option Addr) (n cap : Nat) (hn : n = u.chain.length) (hx : NumsOk u) (hcl : u.chain.length ≤ 9223372036854775807) : Ctr Tryz.prog 7 #[.agg #[.int .i64 u.holder, .int .i64 u.r0, .int .i64 u.r1, .int .i64 u.s0, .int .i64 u.s1, .int .i64 u.carrier, .int .i64 u.serial, .slice A n cap]] [slc fiveL 5 A u.chain] [] (γ := Option Addr × Nat) (fun x => True) (fun x => .tuple #[wishV (madeW u), .slice x.1 (madeL u).length x.2]) (fun x => [row 40 7 x.1 (madeL u).length x.2 ((madeL u).flatMap proxyL)]) := by
 subst hn
 obtain ⟨⟨⟨x1, x1'⟩, ⟨x2, x2'⟩, ⟨x3, x3'⟩, ⟨x4, x4'⟩, ⟨x5, x5'⟩, ⟨x6, x6'⟩, ⟨x7, x7'⟩⟩, hch⟩ := hx
 have q1 := pickN_lo (c := u.r0) (n := 10000) (by decide)
 have q2 := pickN_hi (c := u.r0) (n := 10000) (by decide)
 have q3 := pickN_lo (c := u.r1) (n := 1000) (by decide)
 have q4 := pickN_hi (c := u.r1) (n := 1000) (by decide)
 have q5 := pickN_lo (c := u.s0) (n := 10000) (by decide)
 have q6 := pickN_hi (c := u.s0) (n := 10000) (by decide)
 have q7 := pickN_lo (c := u.s1) (n := 1000) (by decide)
 have q8 := pickN_hi (c := u.s1) (n := 1000) (by decide)
 refine Ctr.intro Tryz.func7 rfl Tryz.ntmps7 (Nat.le_of_ble_eq_true rfl) fun S0 w0 => ?_
 refine T.seq (T.region ?_)
 refine TO.box (v := .agg #[.int _ _, .int _ _, .int _ _, .int _ _, .int _ _, .int _ _, .int _ _, .slice _ _ _]) rfl (fun b1 => ?_)
 refine TO.alloc Tryz.zero30 (fun b2 => ?_)
 refine rdx (rd_assign (v := .slice _ _ _) rfl) ?_
 refine TO.nil (TQ.then_normal (T.seq (T.region ?_)))
 refine rdx (rd_fieldAddr Tryz.field25_1 rfl) ?_
 refine rdx (rd_ixa 0 Tryz.under22 Tryz.size3 rfl rfl rfl (by decide)) ?_
 refine rdx (rd_load (v := .int _ _) Tryz.one3 rfl (Has.own 1 rfl) rfl) ?_
 refine TO.fn Tryz.enters40 (c_ref15_pick _ _ (by omega) (by omega) (by omega) (by omega)) rfl Reads0 ?_
 refine rdx (rd_assign (v := .int _ _) rfl) ?_
 refine TO.nil (TQ.then_normal (T.seq (T.region ?_)))
 refine rdx (rd_move (v := .int _ _) rfl) ?_
 refine rdx (rd_move (v := .int _ _) rfl) ?_
 refine rdx (rd_add rfl rfl (w64 (by omega) (by omega))) ?_
 refine rdx (rd_fieldAddr Tryz.field25_1 rfl) ?_
 refine rdx (rd_ixa 1 Tryz.under22 Tryz.size3 rfl rfl rfl (by decide)) ?_
 refine rdx (rd_load (v := .int _ _) Tryz.one3 rfl (Has.own 1 rfl) rfl) ?_
 refine TO.fn Tryz.enters40 (c_ref15_pick _ _ (by omega) (by omega) (by omega) (by omega)) rfl Reads0 ?_
 refine rdx (rd_add rfl rfl (w64 (by omega) (by omega))) ?_
 refine rdx (rd_build (cs := [.int _ _, .int _ _]) Tryz.places27 Tryz.zero27 rfl rfl) ?_
 refine TO.alloc Tryz.zero27 (fun b3 => ?_)
 refine TO.store0 (cells' := #[.int _ _, .int _ _]) Tryz.size27 rfl (v := .agg #[.int _ _, .int _ _]) rfl rfl rfl (Nat.le_of_ble_eq_true rfl) rfl ?_
 refine TO.nil (TQ.then_normal (T.seq (T.region ?_)))
 refine rdx (rd_fieldAddr Tryz.field25_2 rfl) ?_
 refine rdx (rd_ixa 0 Tryz.under22 Tryz.size3 rfl rfl rfl (by decide)) ?_
 refine rdx (rd_load (v := .int _ _) Tryz.one3 rfl (Has.own 2 rfl) rfl) ?_
 refine TO.fn Tryz.enters40 (c_ref15_pick _ _ (by omega) (by omega) (by omega) (by omega)) rfl Reads0 ?_
 refine rdx (rd_assign (v := .int _ _) rfl) ?_
 refine TO.nil (TQ.then_normal (T.seq (T.region ?_)))
 refine rdx (rd_move (v := .int _ _) rfl) ?_
 refine rdx (rd_move (v := .int _ _) rfl) ?_
 refine rdx (rd_add rfl rfl (w64 (by omega) (by omega))) ?_
 refine rdx (rd_fieldAddr Tryz.field25_2 rfl) ?_
 refine rdx (rd_ixa 1 Tryz.under22 Tryz.size3 rfl rfl rfl (by decide)) ?_
 refine rdx (rd_load (v := .int _ _) Tryz.one3 rfl (Has.own 2 rfl) rfl) ?_
 refine TO.fn Tryz.enters40 (c_ref15_pick _ _ (by omega) (by omega) (by omega) (by omega)) rfl Reads0 ?_
 refine rdx (rd_add rfl rfl (w64 (by omega) (by omega))) ?_
 refine rdx (rd_build (cs := [.int _ _, .int _ _]) Tryz.places28 Tryz.zero28 rfl rfl) ?_
 refine TO.alloc Tryz.zero28 (fun b4 => ?_)
 refine TO.store0 (cells' := #[.int _ _, .int _ _]) Tryz.size28 rfl (v := .agg #[.int _ _, .int _ _]) rfl rfl rfl (Nat.le_of_ble_eq_true rfl) rfl ?_
 refine TO.nil (TQ.then_normal (T.seq (T.region ?_)))
 refine rdx (rd_fieldAddr Tryz.field25_0 rfl) ?_
 refine rdx (rd_load (v := .int _ _) Tryz.one3 rfl (Has.own 3 rfl) rfl) ?_
 refine TO.fn Tryz.enters40 (c_ref15_pick _ _ (by omega) (by omega) (by omega) (by omega)) rfl Reads0 ?_
 refine rdx (rd_assign (v := .int _ _) rfl) ?_
 refine TO.nil (TQ.then_normal (T.seq ?_))
 refine T.drawg Tryz.mixes 9 [(47, 0), (48, 1), (49, 2), (50, 3), (51, 4), (52, 5), (53, 6), (54, 7), (9, 8)] [0, 0, 2, 6, 0, 16, 62, 127, 0, 511] [8] (by kernel_rfl) ?_
 refine DG.rd rfl rfl rfl (fun _ _ => rd_move (v := .int _ _) rfl) ?_
 refine DG.rd rfl rfl rfl (fun _ _ => rd_fieldAddr Tryz.field25_3 rfl) ?_
 refine DG.rd rfl rfl rfl (fun _ _ => rd_load (v := .int _ _) Tryz.one3 rfl (Has.own 3 rfl) rfl) ?_
 refine DG.fn rfl rfl Tryz.enters40 (c_ref15_pick _ _ (by omega) (by omega) (by omega) (by omega)) (fun _ _ => rfl) Reads0 ?_
 refine DG.rd rfl rfl rfl (fun _ _ => rd_fieldAddr Tryz.field25_4 rfl) ?_
 refine DG.rd rfl rfl rfl (fun _ _ => rd_load (v := .int _ _) Tryz.one3 rfl (Has.own 3 rfl) rfl) ?_
 refine DG.fn rfl rfl Tryz.enters40 (c_ref15_pick _ _ (by omega) (by omega) (by omega) (by omega)) (fun _ _ => rfl) Reads0 ?_
 refine DG.rd rfl rfl rfl (fun _ _ => rd_build (cs := [.int _ _, .int _ _, .int _ _, .int _ _, .int _ _, .int _ _, .int _ _, .int _ _, .string _]) Tryz.places30 Tryz.zero30 rfl rfl) ?_
 refine DG.alloc rfl rfl Tryz.zero30 ?_
 refine DG.done rfl (by decide) rfl (fun gh6 => ?_)
 refine TO.store0 (cells' := #[.int _ _, .int _ _, .int _ _, .int _ _, .int _ _, .int _ _, .int _ _, .int _ _, .string _]) Tryz.size30 rfl (v := .agg #[.int _ _, .int _ _, .int _ _, .int _ _, .int _ _, .int _ _, .int _ _, .int _ _, .string _]) rfl rfl rfl (Nat.le_of_ble_eq_true rfl) rfl ?_
 refine TO.nil (TQ.then_normal (T.seq (T.region ?_)))
 refine rdx (rd_assign (v := .slice none 0 0) rfl) ?_
 refine TO.newrow 40 7 ?_
 refine TO.nil (TQ.then_normal (T.seq (T.seq (T.region ?_))))
 refine rdx (rd_assign (v := .int _ _) rfl) ?_
 refine TO.nil (TQ.then_normal (T.block ?_))
 refine T.front2 ?_
 refine T.front3 ?_
 refine T.loop4 [1, 2, 5, 7, 9] (fun (A1 : Option Addr) (cap1 : Nat) (k : Nat) (m : MS) => [(8, .int .i64 m.who), (10, .slice A1 k cap1), (11, .int .i64 (k : Nat))]) (fun (A1 : Option Addr) (cap1 : Nat) (k : Nat) (m : MS) => [own b3 #[.int .i64 m.a, .int .i64 m.b] 27, own b4 #[.int .i64 m.c, .int .i64 m.d] 28, row 40 7 A1 k cap1 (m.l.flatMap proxyL)]) (fun (A1 : Option Addr) (cap1 : Nat) (k : Nat) (m : MS) => m = mrun u k ∧ MOk m ∧ k ≤ u.chain.length ∧ k ≤ 4 ∧ m.l.length = k) (fun (A1 : Option Addr) (cap1 : Nat) (k : Nat) (m : MS) => 4 - k) (none) (0) (0) (mstart u) (⟨rfl, mstart_ok u, Nat.zero_le _, Nat.zero_le _, rfl⟩) (And.intro (rfl) (And.intro (rfl) (And.intro (rfl) (trivial)))) (fun _ _ h => h) fun A1 cap1 k m g0 hx0 => ?_
 obtain ⟨hm, hok, hk, hk4, hml⟩ := hx0
 have hok' := hok
 obtain ⟨⟨o1, o2⟩, ⟨o3, o4, o5⟩, o6, o7, o8⟩ := hok
 refine T.seq (T.seq (T.region ?_))
 refine rdx (rd_move (v := .int _ _) rfl) ?_
 refine rdx (rd_fieldAddr Tryz.field25_5 rfl) ?_
 refine rdx (rd_load (v := .slice _ _ _) Tryz.one23 rfl (Has.own 5 rfl) rfl) ?_
 refine rdx (rd_lensl Tryz.under23 rfl) ?_
 refine rdx (rd_lss rfl rfl) ?_
 refine rdx (rd_move (v := .bool _) rfl) ?_
 refine TO.decide_ft (s := 60) rfl (fun h8 => ?_) (fun h8 => ?_)
 ·try simp only [nrm] at h8
  refine TO.guard_false (s := 60) (b' := false) rfl rfl nofun ?_
  refine TO.guard_false (s := 60) (b' := false) rfl rfl nofun ?_
  refine rdx (rd_pick_false (v := .bool _) rfl rfl) ?_
  refine TO.nil (TQ.then_normal ?_)
  refine T.cond_false rfl ?_
  refine T.exit (TQ.then_exit (TQ.then_exit (TQ.block_out (TQ.then_normal (T.seq (T.region ?_))))))
  refine rdx (rd_move (v := .int _ _) rfl) ?_
  refine rdx (rd_fieldAddr Tryz.field30_0 rfl) ?_
  refine TO.front3 ?_
  refine TO.store0 (cells' := #[.int _ _, .int _ _, .int _ _, .int _ _, .int _ _, .int _ _, .int _ _, .int _ _, .string _]) Tryz.size3 rfl (v := .int _ _) rfl rfl rfl (Nat.le_of_ble_eq_true rfl) rfl ?_
  refine TO.nil (TQ.then_normal (T.seq (T.region ?_)))
  refine rdx (rd_load_agg (cs := #[.int _ _, .int _ _]) Tryz.agg27 rfl (Has.own 1 rfl) rfl rfl) ?_
  refine rdx (rd_fieldAddr Tryz.field30_2 rfl) ?_
  refine TO.store0 (cells' := #[.int _ _, .int _ _, .int _ _, .int _ _, .int _ _, .int _ _, .int _ _, .int _ _, .string _]) Tryz.size27 rfl (v := .agg #[.int _ _, .int _ _]) rfl rfl rfl (Nat.le_of_ble_eq_true rfl) rfl ?_
  refine TO.nil (TQ.then_normal (T.seq (T.region ?_)))
  refine rdx (rd_load_agg (cs := #[.int _ _, .int _ _]) Tryz.agg28 rfl (Has.own 2 rfl) rfl rfl) ?_
  refine rdx (rd_fieldAddr Tryz.field30_5 rfl) ?_
  refine TO.store0 (cells' := #[.int _ _, .int _ _, .int _ _, .int _ _, .int _ _, .int _ _, .int _ _, .int _ _, .string _]) Tryz.size28 rfl (v := .agg #[.int _ _, .int _ _]) rfl rfl rfl (Nat.le_of_ble_eq_true rfl) rfl ?_
  refine TO.nil (TQ.then_normal (T.seq ?_))
  refine T.drawn Tryz.mixes 9 [(130, 0), (131, 1), (132, 2), (133, 3), (129, 4), (134, 5), (135, 6), (16, 7)] [0, 1, 0, 7, 15, 31, 31, 0, 191, 511] [7] 8 7 (by kernel_rfl) rfl ?_
  refine DX.rd rfl rfl rfl (fun _ _ => rd_move (v := .int _ _) rfl) ?_
  refine DX.fn rfl rfl Tryz.enters19 (c_ref15_Key _) (fun _ _ => rfl) Reads0 ?_
  refine DX.rd rfl rfl rfl (fun _ _ => rd_load_agg (cs := #[.int _ _, .int _ _, .int _ _, .int _ _, .int _ _, .int _ _, .int _ _, .int _ _, .string _]) Tryz.agg30 rfl (Has.own 0 rfl) rfl rfl) ?_
  refine DX.fn rfl rfl Tryz.enters21 (c_ref15_SignWish (keyB m.who) (wishOfM u m) (by first | omega | exact wishText_le _ | exact proxyText_le _ | exact puts3_le _ _ _ | (simp only [List.length_append, List.length_cons, List.length_nil, sha_len, leafOf_len, nodeOf_len, sealOf_len, List.length_take, List.length_drop]; omega) | (rw [keyB_len]; omega))) (fun _ _ => rfl) Reads0 ?_
  refine DX.rd rfl rfl rfl (fun _ _ => rd_move (v := .tuple _) rfl) ?_
  refine DX.rd rfl rfl rfl (fun _ _ => rd_extract (v := .agg _) (vs := _) rfl rfl) ?_
  refine DX.rd rfl rfl rfl (fun _ _ => rd_extract (v := .int _ _) (vs := _) rfl rfl) ?_
  refine DX.alloc rfl rfl Tryz.zero30 ?_
  refine DX.stn (v := .agg #[.int _ _, .int _ _, .int _ _, .int _ _, .int _ _, .int _ _, .int _ _, .int _ _, .string _]) (cells' := #[.int _ _, .int _ _, .int _ _, .int _ _, .int _ _, .int _ _, .int _ _, .int _ _, .string _]) rfl rfl rfl rfl (by kernel_rfl) Tryz.size30 rfl (fun _ _ => rfl) (fun _ _ => rfl) rfl rfl (Nat.le_of_ble_eq_true rfl) rfl ?_
  refine DX.done [] rfl rfl (by decide) rfl (fun gh22 => ?_)
  refine rdx (rd_assign (v := .int _ _) rfl) ?_
  refine TO.nil (TQ.then_normal (T.seq (T.region ?_)))
  refine rdx (rd_load_agg (cs := #[.int _ _, .int _ _, .int _ _, .int _ _, .int _ _, .int _ _, .int _ _, .int _ _, .string _]) Tryz.agg30 rfl (Has.own 0 rfl) rfl rfl) ?_
  refine rdx (rd_move (v := .slice _ _ _) rfl) ?_
  refine TO.front5 ?_
  refine TO.store0 (cells' := #[.int _ _, .int _ _, .int _ _, .int _ _, .int _ _, .int _ _, .int _ _, .int _ _, .string _]) Tryz.size30 rfl (v := .agg #[.int _ _, .int _ _, .int _ _, .int _ _, .int _ _, .int _ _, .int _ _, .int _ _, .string _]) rfl rfl rfl (Nat.le_of_ble_eq_true rfl) rfl ?_
  refine rdx (rd_assign (v := .slice _ _ _) rfl) ?_
  refine TO.nil (TQ.then_normal (T.ret ?_))
  have hf : m = mfin u := by rw [hm, mfin]; congr 1; omega
  refine TQ.done ((A1, cap1)) (trivial) ?_ (fun _ _ h => by rw [madeL, ← hf]; exact seps_row 5 rfl hml.symm rfl h) (res2 Tryz.results7 (Res.cells (cs := #[.int _ _, .int _ _, .int _ _, .int _ _, .int _ _, .int _ _, .int _ _, .int _ _, .string _]) Tryz.agg30 rfl (Has.own 0 rfl) rfl rfl) (Res.tmp (v := .slice _ _ _) rfl)) _ (.inl rfl)
  rw [madeL, madeW, ← hf, hml]; rfl
 try simp only [nrm] at h8
 refine TO.guard_true (s := 60) rfl rfl ?_
 refine rdx (rd_move (v := .int _ _) rfl) ?_
 refine TO.guard_true (s := 60) rfl rfl ?_
 refine rdx (rd_lss rfl rfl) ?_
 refine rdx (rd_pick_true (v := .bool _) rfl rfl) ?_
 refine TO.nil (TQ.then_normal ?_)
 refine T.cond_ft rfl (fun h9 => ?_) (fun h9 => ?_)
 ·try simp only [nrm] at h9
  refine T.exit (TQ.then_exit (TQ.then_exit (TQ.block_out (TQ.then_normal (T.seq (T.region ?_))))))
  refine rdx (rd_move (v := .int _ _) rfl) ?_
  refine rdx (rd_fieldAddr Tryz.field30_0 rfl) ?_
  refine TO.front3 ?_
  refine TO.store0 (cells' := #[.int _ _, .int _ _, .int _ _, .int _ _, .int _ _, .int _ _, .int _ _, .int _ _, .string _]) Tryz.size3 rfl (v := .int _ _) rfl rfl rfl (Nat.le_of_ble_eq_true rfl) rfl ?_
  refine TO.nil (TQ.then_normal (T.seq (T.region ?_)))
  refine rdx (rd_load_agg (cs := #[.int _ _, .int _ _]) Tryz.agg27 rfl (Has.own 1 rfl) rfl rfl) ?_
  refine rdx (rd_fieldAddr Tryz.field30_2 rfl) ?_
  refine TO.store0 (cells' := #[.int _ _, .int _ _, .int _ _, .int _ _, .int _ _, .int _ _, .int _ _, .int _ _, .string _]) Tryz.size27 rfl (v := .agg #[.int _ _, .int _ _]) rfl rfl rfl (Nat.le_of_ble_eq_true rfl) rfl ?_
  refine TO.nil (TQ.then_normal (T.seq (T.region ?_)))
  refine rdx (rd_load_agg (cs := #[.int _ _, .int _ _]) Tryz.agg28 rfl (Has.own 2 rfl) rfl rfl) ?_
  refine rdx (rd_fieldAddr Tryz.field30_5 rfl) ?_
  refine TO.store0 (cells' := #[.int _ _, .int _ _, .int _ _, .int _ _, .int _ _, .int _ _, .int _ _, .int _ _, .string _]) Tryz.size28 rfl (v := .agg #[.int _ _, .int _ _]) rfl rfl rfl (Nat.le_of_ble_eq_true rfl) rfl ?_
  refine TO.nil (TQ.then_normal (T.seq ?_))
  refine T.drawn Tryz.mixes 9 [(130, 0), (131, 1), (132, 2), (133, 3), (129, 4), (134, 5), (135, 6), (16, 7)] [0, 1, 0, 7, 15, 31, 31, 0, 191, 511] [7] 8 7 (by kernel_rfl) rfl ?_
  refine DX.rd rfl rfl rfl (fun _ _ => rd_move (v := .int _ _) rfl) ?_
  refine DX.fn rfl rfl Tryz.enters19 (c_ref15_Key _) (fun _ _ => rfl) Reads0 ?_
  refine DX.rd rfl rfl rfl (fun _ _ => rd_load_agg (cs := #[.int _ _, .int _ _, .int _ _, .int _ _, .int _ _, .int _ _, .int _ _, .int _ _, .string _]) Tryz.agg30 rfl (Has.own 0 rfl) rfl rfl) ?_
  refine DX.fn rfl rfl Tryz.enters21 (c_ref15_SignWish (keyB m.who) (wishOfM u m) (by first | omega | exact wishText_le _ | exact proxyText_le _ | exact puts3_le _ _ _ | (simp only [List.length_append, List.length_cons, List.length_nil, sha_len, leafOf_len, nodeOf_len, sealOf_len, List.length_take, List.length_drop]; omega) | (rw [keyB_len]; omega))) (fun _ _ => rfl) Reads0 ?_
  refine DX.rd rfl rfl rfl (fun _ _ => rd_move (v := .tuple _) rfl) ?_
  refine DX.rd rfl rfl rfl (fun _ _ => rd_extract (v := .agg _) (vs := _) rfl rfl) ?_
  refine DX.rd rfl rfl rfl (fun _ _ => rd_extract (v := .int _ _) (vs := _) rfl rfl) ?_
  refine DX.alloc rfl rfl Tryz.zero30 ?_
  refine DX.stn (v := .agg #[.int _ _, .int _ _, .int _ _, .int _ _, .int _ _, .int _ _, .int _ _, .int _ _, .string _]) (cells' := #[.int _ _, .int _ _, .int _ _, .int _ _, .int _ _, .int _ _, .int _ _, .int _ _, .string _]) rfl rfl rfl rfl (by kernel_rfl) Tryz.size30 rfl (fun _ _ => rfl) (fun _ _ => rfl) rfl rfl (Nat.le_of_ble_eq_true rfl) rfl ?_
  refine DX.done [] rfl rfl (by decide) rfl (fun gh20 => ?_)
  refine rdx (rd_assign (v := .int _ _) rfl) ?_
  refine TO.nil (TQ.then_normal (T.seq (T.region ?_)))
  refine rdx (rd_load_agg (cs := #[.int _ _, .int _ _, .int _ _, .int _ _, .int _ _, .int _ _, .int _ _, .int _ _, .string _]) Tryz.agg30 rfl (Has.own 0 rfl) rfl rfl) ?_
  refine rdx (rd_move (v := .slice _ _ _) rfl) ?_
  refine TO.front5 ?_
  refine TO.store0 (cells' := #[.int _ _, .int _ _, .int _ _, .int _ _, .int _ _, .int _ _, .int _ _, .int _ _, .string _]) Tryz.size30 rfl (v := .agg #[.int _ _, .int _ _, .int _ _, .int _ _, .int _ _, .int _ _, .int _ _, .int _ _, .string _]) rfl rfl rfl (Nat.le_of_ble_eq_true rfl) rfl ?_
  refine rdx (rd_assign (v := .slice _ _ _) rfl) ?_
  refine TO.nil (TQ.then_normal (T.ret ?_))
  have hf : m = mfin u := by rw [hm, mfin]; congr 1; omega
  refine TQ.done ((A1, cap1)) (trivial) ?_ (fun _ _ h => by rw [madeL, ← hf]; exact seps_row 5 rfl hml.symm rfl h) (res2 Tryz.results7 (Res.cells (cs := #[.int _ _, .int _ _, .int _ _, .int _ _, .int _ _, .int _ _, .int _ _, .int _ _, .string _]) Tryz.agg30 rfl (Has.own 0 rfl) rfl rfl) (Res.tmp (v := .slice _ _ _) rfl)) _ (.inl rfl)
  rw [madeL, madeW, ← hf, hml]; rfl
 try simp only [nrm] at h9
 refine T.skip (TQ.then_normal (T.seq (T.block (T.seq (T.region ?_)))))
 refine rdx (rd_fieldAddr Tryz.field25_5 rfl) ?_
 refine rdx (rd_load (v := .slice _ _ _) Tryz.one23 rfl (Has.own 5 rfl) rfl) ?_
 refine rdx (rd_move (v := .int _ _) rfl) ?_
 refine rdx (rd_ix (k := k) Tryz.under23 Tryz.size77 rfl rfl (Has.arg 0 rfl) rfl (by omega) (by omega)) ?_
 refine rdx (rd_ela (cs := [.int _ _, .int _ _, .int _ _, .int _ _, .int _ _]) k 0 Tryz.agg77 rfl (Has.arg 0 rfl) rfl (by omega) (Nat.le_of_ble_eq_true rfl) rfl rfl rfl) ?_
 have hkl : k < u.chain.length := by omega
 obtain ⟨⟨y1, y1'⟩, ⟨y2, y2'⟩, ⟨y3, y3'⟩, ⟨y4, y4'⟩, ⟨y5, y5'⟩⟩ := hch k hkl
 refine TO.alloc Tryz.zero77 (fun b10 => ?_)
 refine TO.store0 (cells' := #[.int _ _, .int _ _, .int _ _, .int _ _, .int _ _]) Tryz.size77 rfl (v := .agg #[.int _ _, .int _ _, .int _ _, .int _ _, .int _ _]) rfl rfl rfl (Nat.le_of_ble_eq_true rfl) rfl ?_
 refine TO.nil (TQ.then_normal (T.seq ?_))
 refine T.drawg Tryz.mixes 12 [(71, 0), (72, 1), (73, 2), (74, 3), (75, 4), (76, 5), (77, 6), (78, 7), (79, 8), (80, 9), (81, 10), (13, 11)] [0, 0, 2, 0, 8, 24, 62, 126, 0, 0, 1023, 0, 4095] [11] (by kernel_rfl) ?_
 refine DG.rd rfl rfl rfl (fun _ _ => rd_move (v := .int _ _) rfl) ?_
 refine DG.rd rfl rfl rfl (fun _ _ => rd_move (v := .int _ _) rfl) ?_
 refine DG.rd rfl rfl rfl (fun _ _ => rd_add rfl rfl (w64 (by omega) (by omega))) ?_
 refine DG.rd rfl rfl rfl (fun _ _ => rd_ixa 0 Tryz.under77 Tryz.size3 rfl rfl rfl (by decide)) ?_
 refine DG.rd rfl rfl rfl (fun _ _ => rd_load (v := .int _ _) Tryz.one3 rfl (Has.own 0 rfl) rfl) ?_
 refine DG.fn rfl rfl Tryz.enters40 (c_ref15_pick _ _ (by omega) (by omega) (by omega) (by omega)) (fun _ _ => rfl) Reads0 ?_
 have e1 := pickN_lo (c := (u.chain[k]'hkl).a) (n := 9) (by decide)
 have e2 := pickN_hi (c := (u.chain[k]'hkl).a) (n := 9) (by decide)
 refine DG.rd rfl rfl rfl (fun _ _ => rd_add rfl rfl (w64 (by omega) (by omega))) ?_
 refine DG.rd rfl rfl rfl (fun _ _ => rd_rem rfl rfl (by omega) (Int.tmod_eq_emod_of_nonneg (by omega))) ?_
 refine DG.rd rfl rfl rfl (fun _ _ => rd_load_agg (cs := #[.int _ _, .int _ _]) Tryz.agg27 rfl (Has.own 1 rfl) rfl rfl) ?_
 refine DG.rd rfl rfl rfl (fun _ _ => rd_load_agg (cs := #[.int _ _, .int _ _]) Tryz.agg28 rfl (Has.own 2 rfl) rfl rfl) ?_
 refine DG.rd rfl rfl rfl (fun _ _ => rd_build (cs := [.int _ _, .int _ _, .int _ _, .int _ _, .int _ _, .int _ _, .string _]) Tryz.places40 Tryz.zero40 rfl rfl) ?_
 refine DG.alloc rfl rfl Tryz.zero40 ?_
 refine DG.done rfl (by decide) rfl (fun gh12 => ?_)
 refine TO.store0 (cells' := #[.int _ _, .int _ _, .int _ _, .int _ _, .int _ _, .int _ _, .string _]) Tryz.size40 rfl (v := .agg #[.int _ _, .int _ _, .int _ _, .int _ _, .int _ _, .int _ _, .string _]) rfl rfl rfl (Nat.le_of_ble_eq_true rfl) rfl ?_
 refine TO.nil (TQ.then_normal (T.seq ?_))
 refine T.drawn Tryz.mixes 9 [(83, 0), (84, 1), (85, 2), (86, 3), (82, 4), (87, 5), (88, 6), (14, 7)] [0, 1, 0, 7, 15, 31, 31, 0, 191, 511] [7] 8 7 (by kernel_rfl) rfl ?_
 refine DX.rd rfl rfl rfl (fun _ _ => rd_move (v := .int _ _) rfl) ?_
 refine DX.fn rfl rfl Tryz.enters19 (c_ref15_Key _) (fun _ _ => rfl) Reads0 ?_
 refine DX.rd rfl rfl rfl (fun _ _ => rd_load_agg (cs := #[.int _ _, .int _ _, .int _ _, .int _ _, .int _ _, .int _ _, .string _]) Tryz.agg40 rfl (Has.own 0 rfl) rfl rfl) ?_
 refine DX.fn rfl rfl Tryz.enters23 (c_ref15_SignProxy (keyB m.who) (⟨m.who, (m.who + 1 + pickN (u.chain[k]'hkl).a 9) % 10, m.a, m.b, m.c, m.d, []⟩) (by first | omega | exact wishText_le _ | exact proxyText_le _ | exact puts3_le _ _ _ | (simp only [List.length_append, List.length_cons, List.length_nil, sha_len, leafOf_len, nodeOf_len, sealOf_len, List.length_take, List.length_drop]; omega) | (rw [keyB_len]; omega))) (fun _ _ => rfl) Reads0 ?_
 refine DX.rd rfl rfl rfl (fun _ _ => rd_move (v := .tuple _) rfl) ?_
 refine DX.rd rfl rfl rfl (fun _ _ => rd_extract (v := .agg _) (vs := _) rfl rfl) ?_
 refine DX.rd rfl rfl rfl (fun _ _ => rd_extract (v := .int _ _) (vs := _) rfl rfl) ?_
 refine DX.alloc rfl rfl Tryz.zero40 ?_
 refine DX.stn (v := .agg #[.int _ _, .int _ _, .int _ _, .int _ _, .int _ _, .int _ _, .string _]) (cells' := #[.int _ _, .int _ _, .int _ _, .int _ _, .int _ _, .int _ _, .string _]) rfl rfl rfl rfl (by kernel_rfl) Tryz.size40 rfl (fun _ _ => rfl) (fun _ _ => rfl) rfl rfl (Nat.le_of_ble_eq_true rfl) rfl ?_
 refine DX.done [] rfl rfl (by decide) rfl (fun gh14 => ?_)
 refine rdx (rd_assign (v := .int _ _) rfl) ?_
 refine TO.nil (TQ.then_normal (T.seq (T.region ?_)))
 refine rdx (rd_move (v := .slice _ _ _) rfl) ?_
 refine rdx (rd_load_agg (cs := #[.int _ _, .int _ _, .int _ _, .int _ _, .int _ _, .int _ _, .string _]) Tryz.agg40 rfl (Has.own 0 rfl) rfl rfl) ?_
 refine TO.buildS (cs := [.int _ _, .int _ _, .int _ _, .int _ _, .int _ _, .int _ _, .string _]) Tryz.under31 Tryz.size40 Tryz.zero40 (Nat.le_of_ble_eq_true rfl) rfl (fun b15 => ?_)
 refine TO.front6 ?_
 refine TO.app Tryz.trow40 Tryz.under31 (.inl ⟨_, Tryz.under31⟩) rfl rfl (Src.own1 1 rfl rfl) rfl rfl (by omega) (fun A16 c17 hc18 => ?_)
 refine TO.row_eq (k' := k + 1) (cs' := (mstep m (u.chain[k]'hkl)).l.flatMap proxyL) rfl (by simp only [mstep, List.flatMap_append]; rfl) ?_
 refine rdx (rd_assign (v := .slice _ _ _) rfl) ?_
 refine TO.nil (TQ.then_normal (T.seq (T.region ?_)))
 refine rdx (rd_fieldAddr Tryz.field40_1 rfl) ?_
 refine rdx (rd_load (v := .int _ _) Tryz.one3 rfl (Has.own 3 rfl) rfl) ?_
 refine rdx (rd_assign (v := .int _ _) rfl) ?_
 refine TO.nil (TQ.then_normal (T.seq (T.region ?_)))
 refine rdx (rd_fieldAddr Tryz.field27_0 rfl) ?_
 refine rdx (rd_load (v := .int _ _) Tryz.one3 rfl (Has.own 5 rfl) rfl) ?_
 refine rdx (rd_fieldAddr Tryz.field27_1 rfl) ?_
 refine rdx (rd_load (v := .int _ _) Tryz.one3 rfl (Has.own 5 rfl) rfl) ?_
 refine rdx (rd_ixa 1 Tryz.under77 Tryz.size3 rfl rfl rfl (by decide)) ?_
 refine rdx (rd_load (v := .int _ _) Tryz.one3 rfl (Has.own 4 rfl) rfl) ?_
 refine rdx (rd_ixa 2 Tryz.under77 Tryz.size3 rfl rfl rfl (by decide)) ?_
 refine rdx (rd_load (v := .int _ _) Tryz.one3 rfl (Has.own 4 rfl) rfl) ?_
 refine TO.fn Tryz.enters41 (c_ref15_narrowed _ _ _ _ (by omega) (by omega) (by omega) (by omega) (by omega) (by omega) (by omega)) rfl Reads0 ?_
 refine rdx (rd_move (v := .tuple _) rfl) ?_
 refine rdx (rd_extract (v := .int _ _) (vs := _) rfl rfl) ?_
 refine rdx (rd_extract (v := .int _ _) (vs := _) rfl rfl) ?_
 refine rdx (rd_fieldAddr Tryz.field27_0 rfl) ?_
 refine TO.front5 ?_
 refine TO.store0 (cells' := #[.int _ _, .int _ _]) Tryz.size3 rfl (v := .int _ _) rfl rfl rfl (Nat.le_of_ble_eq_true rfl) rfl ?_
 refine rdx (rd_fieldAddr Tryz.field27_1 rfl) ?_
 refine TO.store0 (cells' := #[.int _ _, .int _ _]) Tryz.size3 rfl (v := .int _ _) rfl rfl rfl (Nat.le_of_ble_eq_true rfl) rfl ?_
 refine TO.nil (TQ.then_normal (T.region ?_))
 refine rdx (rd_fieldAddr Tryz.field28_0 rfl) ?_
 refine rdx (rd_load (v := .int _ _) Tryz.one3 rfl (Has.own 6 rfl) rfl) ?_
 refine rdx (rd_fieldAddr Tryz.field28_1 rfl) ?_
 refine rdx (rd_load (v := .int _ _) Tryz.one3 rfl (Has.own 6 rfl) rfl) ?_
 refine rdx (rd_ixa 3 Tryz.under77 Tryz.size3 rfl rfl rfl (by decide)) ?_
 refine rdx (rd_load (v := .int _ _) Tryz.one3 rfl (Has.own 5 rfl) rfl) ?_
 refine rdx (rd_ixa 4 Tryz.under77 Tryz.size3 rfl rfl rfl (by decide)) ?_
 refine rdx (rd_load (v := .int _ _) Tryz.one3 rfl (Has.own 5 rfl) rfl) ?_
 refine TO.fn Tryz.enters41 (c_ref15_narrowed _ _ _ _ (by omega) (by omega) (by omega) (by omega) (by omega) (by omega) (by omega)) rfl Reads0 ?_
 refine rdx (rd_move (v := .tuple _) rfl) ?_
 refine rdx (rd_extract (v := .int _ _) (vs := _) rfl rfl) ?_
 refine rdx (rd_extract (v := .int _ _) (vs := _) rfl rfl) ?_
 refine rdx (rd_fieldAddr Tryz.field28_0 rfl) ?_
 refine TO.front6 ?_
 refine TO.store0 (cells' := #[.int _ _, .int _ _]) Tryz.size3 rfl (v := .int _ _) rfl rfl rfl (Nat.le_of_ble_eq_true rfl) rfl ?_
 refine rdx (rd_fieldAddr Tryz.field28_1 rfl) ?_
 refine TO.store0 (cells' := #[.int _ _, .int _ _]) Tryz.size3 rfl (v := .int _ _) rfl rfl rfl (Nat.le_of_ble_eq_true rfl) rfl ?_
 refine TO.nil (TQ.block_normal (TQ.then_normal (T.region ?_)))
 refine rdx (rd_move (v := .int _ _) rfl) ?_
 refine rdx (rd_add rfl rfl (w64 (by omega) (by omega))) ?_
 refine rdx (rd_assign (v := .int _ _) rfl) ?_
 refine TO.nil ?_
 refine TQ.againk (A16, c17, k + 1, mstep m (u.chain[k]'hkl)) ?_ ?_ (And.intro (rfl) (And.intro (rfl) (And.intro (rfl) (trivial)))) (And.intro (rfl) (And.intro (rfl) (And.intro (rfl) (And.intro (rfl) (And.intro (rfl) (trivial)))))) (fun _ _ h => h.sel (js := [1, 0, 2, 7, 8, 9]) (by decide))
 ·exact ⟨by rw [mrun_succ hkl, ← hm], mstep_ok hok' _, by dsimp only; omega, by dsimp only; omega, by simp only [mstep, List.length_append, hml]; rfl⟩
 ·first | omega | (dsimp only; omega)
end Go.Proofs
end
section
set_option linter.unusedVariables false
set_option linter.unusedSimpArgs false
set_option maxRecDepth 100000
set_option maxHeartbeats 800000
namespace Go.Proofs
open Go.TL
attribute [local irreducible] Go.TL.T Go.TL.TO Go.TL.TQ
end Go.Proofs
end
section
set_option linter.unusedVariables false
set_option linter.unusedSimpArgs false
set_option maxRecDepth 100000
set_option maxHeartbeats 800000
namespace Go.Proofs
open Go.TL
attribute [local irreducible] Go.TL.T Go.TL.TO Go.TL.TQ
theorem c_ref15_BentWish (w : Wish) (how n : Int) (hr0 : 0 ≤ w.rhi) (hr1 : w.rhi ≤ 1000000000000) (how0 : -9223372036854775808 ≤ how) (how1 : how ≤ 9223372036854775807) : Cv Tryz.prog 8 #[wishV w, .int .i64 how, .int .i64 n] [] (.tuple #[wishV (bendW w how n), .bool (!(decide (bendW w how n = w)))]) := by
 have q1 := pickN_lo (c := how) (n := 9) (by decide)
 have q2 := pickN_hi (c := how) (n := 9) (by decide)
 refine Ctr.intro Tryz.func8 rfl Tryz.ntmps8 (Nat.le_of_ble_eq_true rfl) fun S0 w0 => ?_
 refine T.seq (T.region ?_)
 refine TO.box (v := .agg #[.int _ _, .int _ _, .int _ _, .int _ _, .int _ _, .int _ _, .int _ _, .int _ _, .string _]) rfl (fun b1 => ?_)
 refine TO.alloc Tryz.zero30 (fun b2 => ?_)
 refine rdx (rd_assign (v := .bool _) rfl) ?_
 refine TO.nil (TQ.then_normal (T.seq (T.region ?_)))
 refine rdx (rd_load_agg (cs := #[.int _ _, .int _ _, .int _ _, .int _ _, .int _ _, .int _ _, .int _ _, .int _ _, .string _]) Tryz.agg30 rfl (Has.own 1 rfl) rfl rfl) ?_
 refine TO.alloc Tryz.zero30 (fun b3 => ?_)
 refine TO.store0 (cells' := #[.int _ _, .int _ _, .int _ _, .int _ _, .int _ _, .int _ _, .int _ _, .int _ _, .string _]) Tryz.size30 rfl (v := .agg #[.int _ _, .int _ _, .int _ _, .int _ _, .int _ _, .int _ _, .int _ _, .int _ _, .string _]) rfl rfl rfl (Nat.le_of_ble_eq_true rfl) rfl ?_
 refine TO.nil (TQ.then_normal (T.seq (T.seq (T.region ?_))))
 refine rdx (rd_move (v := .int _ _) rfl) ?_
 refine TO.fn Tryz.enters40 (c_ref15_pick _ _ (by omega) (by omega) (by omega) (by omega)) rfl Reads0 ?_
 refine TO.nil (TQ.then_normal (T.block (T.seq (T.region ?_))))
 refine rdx (rd_eql rfl rfl) ?_
 refine rdx (rd_assign (v := .bool _) rfl) ?_
 refine TO.nil (TQ.then_normal ?_)
 refine T.cond rfl (fun h4 => ?_) (fun h4 => ?_)
 ·try simp only [nrm] at h4
  refine T.region ?_
  refine rdx (rd_move (v := .int _ _) rfl) ?_
  refine rdx (rd_fieldAddr Tryz.field30_0 rfl) ?_
  refine TO.store0 (cells' := #[.int _ _, .int _ _, .int _ _, .int _ _, .int _ _, .int _ _, .int _ _, .int _ _, .string _]) Tryz.size3 rfl (v := .int _ _) rfl rfl rfl (Nat.le_of_ble_eq_true rfl) rfl ?_
  refine TO.nil (TQ.block_normal (TQ.then_normal (T.seq ?_)))
  refine T.front1 ?_
  refine T.drawo Tryz.mixes 5 [(54, 0), (55, 1), (56, 2), (57, 3)] [0, 0, 0, 6, 1, 31] [] 4 (by kernel_rfl) ?_
  refine DX.rd rfl rfl rfl (fun _ _ => rd_load_agg (cs := #[.int _ _, .int _ _, .int _ _, .int _ _, .int _ _, .int _ _, .int _ _, .int _ _, .string _]) Tryz.agg30 rfl (Has.own 0 rfl) rfl rfl) ?_
  refine DX.rd rfl rfl rfl (fun _ _ => rd_load_agg (cs := #[.int _ _, .int _ _, .int _ _, .int _ _, .int _ _, .int _ _, .int _ _, .int _ _, .string _]) Tryz.agg30 rfl (Has.own 0 rfl) rfl rfl) ?_
  refine DX.rd rfl rfl rfl (fun _ _ => rd_load_agg (cs := #[.int _ _, .int _ _, .int _ _, .int _ _, .int _ _, .int _ _, .int _ _, .int _ _, .string _]) Tryz.agg30 rfl (Has.own 1 rfl) rfl rfl) ?_
  refine DX.rd rfl rfl rfl (fun _ _ => rd_new Tryz.eqty (p := ⟨n, w.holder, w.rlo, w.rhi, w.carrier, w.serial, w.slo, w.shi, w.sig⟩) (q := w) rfl rfl) ?_
  refine DX.sto (v := .agg #[.int _ _, .int _ _, .int _ _, .int _ _, .int _ _, .int _ _, .int _ _, .int _ _, .string _]) (cells' := #[.int _ _, .int _ _, .int _ _, .int _ _, .int _ _, .int _ _, .int _ _, .int _ _, .string _]) rfl rfl Tryz.size30 (fun _ _ => rfl) (fun _ _ => rfl) rfl rfl (Nat.le_of_ble_eq_true rfl) rfl ?_
  refine DX.done [] rfl rfl (by decide) rfl (fun gh5 => ?_)
  refine rdx (rd_assign (v := .bool _) rfl) ?_
  refine TO.nil (TQ.then_normal (T.ret ?_))
  refine TQ.value ?_ (res2 Tryz.results8 (Res.cells (cs := #[.int _ _, .int _ _, .int _ _, .int _ _, .int _ _, .int _ _, .int _ _, .int _ _, .string _]) Tryz.agg30 rfl (Has.own 0 rfl) rfl rfl) (Res.tmp (v := .bool _) rfl)) _ (.inl rfl)
  have hb : bendW w how n = ⟨n, w.holder, w.rlo, w.rhi, w.carrier, w.serial, w.slo, w.shi, w.sig⟩ := by rw [bendW, if_pos (by omega)]
  rw [hb]; rfl
 try simp only [nrm] at h4
 refine T.seq (T.region ?_)
 refine rdx (rd_eql rfl rfl) ?_
 refine rdx (rd_assign (v := .bool _) rfl) ?_
 refine TO.nil (TQ.then_normal ?_)
 refine T.cond rfl (fun h6 => ?_) (fun h6 => ?_)
 ·try simp only [nrm] at h6
  refine T.region ?_
  refine rdx (rd_move (v := .int _ _) rfl) ?_
  refine rdx (rd_fieldAddr Tryz.field30_1 rfl) ?_
  refine TO.store0 (cells' := #[.int _ _, .int _ _, .int _ _, .int _ _, .int _ _, .int _ _, .int _ _, .int _ _, .string _]) Tryz.size3 rfl (v := .int _ _) rfl rfl rfl (Nat.le_of_ble_eq_true rfl) rfl ?_
  refine TO.nil (TQ.block_normal (TQ.then_normal (T.seq ?_)))
  refine T.front1 ?_
  refine T.drawo Tryz.mixes 5 [(54, 0), (55, 1), (56, 2), (57, 3)] [0, 0, 0, 6, 1, 31] [] 4 (by kernel_rfl) ?_
  refine DX.rd rfl rfl rfl (fun _ _ => rd_load_agg (cs := #[.int _ _, .int _ _, .int _ _, .int _ _, .int _ _, .int _ _, .int _ _, .int _ _, .string _]) Tryz.agg30 rfl (Has.own 0 rfl) rfl rfl) ?_
  refine DX.rd rfl rfl rfl (fun _ _ => rd_load_agg (cs := #[.int _ _, .int _ _, .int _ _, .int _ _, .int _ _, .int _ _, .int _ _, .int _ _, .string _]) Tryz.agg30 rfl (Has.own 0 rfl) rfl rfl) ?_
  refine DX.rd rfl rfl rfl (fun _ _ => rd_load_agg (cs := #[.int _ _, .int _ _, .int _ _, .int _ _, .int _ _, .int _ _, .int _ _, .int _ _, .string _]) Tryz.agg30 rfl (Has.own 1 rfl) rfl rfl) ?_
  refine DX.rd rfl rfl rfl (fun _ _ => rd_new Tryz.eqty (p := ⟨w.signer, n, w.rlo, w.rhi, w.carrier, w.serial, w.slo, w.shi, w.sig⟩) (q := w) rfl rfl) ?_
  refine DX.sto (v := .agg #[.int _ _, .int _ _, .int _ _, .int _ _, .int _ _, .int _ _, .int _ _, .int _ _, .string _]) (cells' := #[.int _ _, .int _ _, .int _ _, .int _ _, .int _ _, .int _ _, .int _ _, .int _ _, .string _]) rfl rfl Tryz.size30 (fun _ _ => rfl) (fun _ _ => rfl) rfl rfl (Nat.le_of_ble_eq_true rfl) rfl ?_
  refine DX.done [] rfl rfl (by decide) rfl (fun gh7 => ?_)
  refine rdx (rd_assign (v := .bool _) rfl) ?_
  refine TO.nil (TQ.then_normal (T.ret ?_))
  refine TQ.value ?_ (res2 Tryz.results8 (Res.cells (cs := #[.int _ _, .int _ _, .int _ _, .int _ _, .int _ _, .int _ _, .int _ _, .int _ _, .string _]) Tryz.agg30 rfl (Has.own 0 rfl) rfl rfl) (Res.tmp (v := .bool _) rfl)) _ (.inl rfl)
  have hb : bendW w how n = ⟨w.signer, n, w.rlo, w.rhi, w.carrier, w.serial, w.slo, w.shi, w.sig⟩ := by rw [bendW, if_neg (by omega), if_pos (by omega)]
  rw [hb]; rfl
 try simp only [nrm] at h6
 refine T.seq (T.region ?_)
 refine rdx (rd_eql rfl rfl) ?_
 refine rdx (rd_assign (v := .bool _) rfl) ?_
 refine TO.nil (TQ.then_normal ?_)
 refine T.cond rfl (fun h8 => ?_) (fun h8 => ?_)
 ·try simp only [nrm] at h8
  refine T.region ?_
  refine rdx (rd_move (v := .int _ _) rfl) ?_
  refine rdx (rd_fieldAddr Tryz.field30_2 rfl) ?_
  refine rdx (rd_fieldAddr Tryz.field27_0 rfl) ?_
  refine TO.store0 (cells' := #[.int _ _, .int _ _, .int _ _, .int _ _, .int _ _, .int _ _, .int _ _, .int _ _, .string _]) Tryz.size3 rfl (v := .int _ _) rfl rfl rfl (Nat.le_of_ble_eq_true rfl) rfl ?_
  refine TO.nil (TQ.block_normal (TQ.then_normal (T.seq ?_)))
  refine T.front1 ?_
  refine T.drawo Tryz.mixes 5 [(54, 0), (55, 1), (56, 2), (57, 3)] [0, 0, 0, 6, 1, 31] [] 4 (by kernel_rfl) ?_
  refine DX.rd rfl rfl rfl (fun _ _ => rd_load_agg (cs := #[.int _ _, .int _ _, .int _ _, .int _ _, .int _ _, .int _ _, .int _ _, .int _ _, .string _]) Tryz.agg30 rfl (Has.own 0 rfl) rfl rfl) ?_
  refine DX.rd rfl rfl rfl (fun _ _ => rd_load_agg (cs := #[.int _ _, .int _ _, .int _ _, .int _ _, .int _ _, .int _ _, .int _ _, .int _ _, .string _]) Tryz.agg30 rfl (Has.own 0 rfl) rfl rfl) ?_
  refine DX.rd rfl rfl rfl (fun _ _ => rd_load_agg (cs := #[.int _ _, .int _ _, .int _ _, .int _ _, .int _ _, .int _ _, .int _ _, .int _ _, .string _]) Tryz.agg30 rfl (Has.own 1 rfl) rfl rfl) ?_
  refine DX.rd rfl rfl rfl (fun _ _ => rd_new Tryz.eqty (p := ⟨w.signer, w.holder, n, w.rhi, w.carrier, w.serial, w.slo, w.shi, w.sig⟩) (q := w) rfl rfl) ?_
  refine DX.sto (v := .agg #[.int _ _, .int _ _, .int _ _, .int _ _, .int _ _, .int _ _, .int _ _, .int _ _, .string _]) (cells' := #[.int _ _, .int _ _, .int _ _, .int _ _, .int _ _, .int _ _, .int _ _, .int _ _, .string _]) rfl rfl Tryz.size30 (fun _ _ => rfl) (fun _ _ => rfl) rfl rfl (Nat.le_of_ble_eq_true rfl) rfl ?_
  refine DX.done [] rfl rfl (by decide) rfl (fun gh9 => ?_)
  refine rdx (rd_assign (v := .bool _) rfl) ?_
  refine TO.nil (TQ.then_normal (T.ret ?_))
  refine TQ.value ?_ (res2 Tryz.results8 (Res.cells (cs := #[.int _ _, .int _ _, .int _ _, .int _ _, .int _ _, .int _ _, .int _ _, .int _ _, .string _]) Tryz.agg30 rfl (Has.own 0 rfl) rfl rfl) (Res.tmp (v := .bool _) rfl)) _ (.inl rfl)
  have hb : bendW w how n = ⟨w.signer, w.holder, n, w.rhi, w.carrier, w.serial, w.slo, w.shi, w.sig⟩ := by rw [bendW, if_neg (by omega), if_neg (by omega), if_pos (by omega)]
  rw [hb]; rfl
 try simp only [nrm] at h8
 refine T.seq (T.region ?_)
 refine rdx (rd_eql rfl rfl) ?_
 refine rdx (rd_assign (v := .bool _) rfl) ?_
 refine TO.nil (TQ.then_normal ?_)
 refine T.cond rfl (fun h10 => ?_) (fun h10 => ?_)
 ·try simp only [nrm] at h10
  refine T.region ?_
  refine rdx (rd_move (v := .int _ _) rfl) ?_
  refine rdx (rd_fieldAddr Tryz.field30_2 rfl) ?_
  refine rdx (rd_fieldAddr Tryz.field27_1 rfl) ?_
  refine TO.store0 (cells' := #[.int _ _, .int _ _, .int _ _, .int _ _, .int _ _, .int _ _, .int _ _, .int _ _, .string _]) Tryz.size3 rfl (v := .int _ _) rfl rfl rfl (Nat.le_of_ble_eq_true rfl) rfl ?_
  refine TO.nil (TQ.block_normal (TQ.then_normal (T.seq ?_)))
  refine T.front1 ?_
  refine T.drawo Tryz.mixes 5 [(54, 0), (55, 1), (56, 2), (57, 3)] [0, 0, 0, 6, 1, 31] [] 4 (by kernel_rfl) ?_
  refine DX.rd rfl rfl rfl (fun _ _ => rd_load_agg (cs := #[.int _ _, .int _ _, .int _ _, .int _ _, .int _ _, .int _ _, .int _ _, .int _ _, .string _]) Tryz.agg30 rfl (Has.own 0 rfl) rfl rfl) ?_
  refine DX.rd rfl rfl rfl (fun _ _ => rd_load_agg (cs := #[.int _ _, .int _ _, .int _ _, .int _ _, .int _ _, .int _ _, .int _ _, .int _ _, .string _]) Tryz.agg30 rfl (Has.own 0 rfl) rfl rfl) ?_
  refine DX.rd rfl rfl rfl (fun _ _ => rd_load_agg (cs := #[.int _ _, .int _ _, .int _ _, .int _ _, .int _ _, .int _ _, .int _ _, .int _ _, .string _]) Tryz.agg30 rfl (Has.own 1 rfl) rfl rfl) ?_
  refine DX.rd rfl rfl rfl (fun _ _ => rd_new Tryz.eqty (p := ⟨w.signer, w.holder, w.rlo, n, w.carrier, w.serial, w.slo, w.shi, w.sig⟩) (q := w) rfl rfl) ?_
  refine DX.sto (v := .agg #[.int _ _, .int _ _, .int _ _, .int _ _, .int _ _, .int _ _, .int _ _, .int _ _, .string _]) (cells' := #[.int _ _, .int _ _, .int _ _, .int _ _, .int _ _, .int _ _, .int _ _, .int _ _, .string _]) rfl rfl Tryz.size30 (fun _ _ => rfl) (fun _ _ => rfl) rfl rfl (Nat.le_of_ble_eq_true rfl) rfl ?_
  refine DX.done [] rfl rfl (by decide) rfl (fun gh11 => ?_)
  refine rdx (rd_assign (v := .bool _) rfl) ?_
  refine TO.nil (TQ.then_normal (T.ret ?_))
  refine TQ.value ?_ (res2 Tryz.results8 (Res.cells (cs := #[.int _ _, .int _ _, .int _ _, .int _ _, .int _ _, .int _ _, .int _ _, .int _ _, .string _]) Tryz.agg30 rfl (Has.own 0 rfl) rfl rfl) (Res.tmp (v := .bool _) rfl)) _ (.inl rfl)
  have hb : bendW w how n = ⟨w.signer, w.holder, w.rlo, n, w.carrier, w.serial, w.slo, w.shi, w.sig⟩ := by rw [bendW, if_neg (by omega), if_neg (by omega), if_neg (by omega), if_pos (by omega)]
  rw [hb]; rfl
 try simp only [nrm] at h10
 refine T.seq (T.region ?_)
 refine rdx (rd_eql rfl rfl) ?_
 refine rdx (rd_assign (v := .bool _) rfl) ?_
 refine TO.nil (TQ.then_normal ?_)
 refine T.cond rfl (fun h12 => ?_) (fun h12 => ?_)
 ·try simp only [nrm] at h12
  refine T.region ?_
  refine rdx (rd_move (v := .int _ _) rfl) ?_
  refine rdx (rd_fieldAddr Tryz.field30_3 rfl) ?_
  refine TO.store0 (cells' := #[.int _ _, .int _ _, .int _ _, .int _ _, .int _ _, .int _ _, .int _ _, .int _ _, .string _]) Tryz.size3 rfl (v := .int _ _) rfl rfl rfl (Nat.le_of_ble_eq_true rfl) rfl ?_
  refine TO.nil (TQ.block_normal (TQ.then_normal (T.seq ?_)))
  refine T.front1 ?_
  refine T.drawo Tryz.mixes 5 [(54, 0), (55, 1), (56, 2), (57, 3)] [0, 0, 0, 6, 1, 31] [] 4 (by kernel_rfl) ?_
  refine DX.rd rfl rfl rfl (fun _ _ => rd_load_agg (cs := #[.int _ _, .int _ _, .int _ _, .int _ _, .int _ _, .int _ _, .int _ _, .int _ _, .string _]) Tryz.agg30 rfl (Has.own 0 rfl) rfl rfl) ?_
  refine DX.rd rfl rfl rfl (fun _ _ => rd_load_agg (cs := #[.int _ _, .int _ _, .int _ _, .int _ _, .int _ _, .int _ _, .int _ _, .int _ _, .string _]) Tryz.agg30 rfl (Has.own 0 rfl) rfl rfl) ?_
  refine DX.rd rfl rfl rfl (fun _ _ => rd_load_agg (cs := #[.int _ _, .int _ _, .int _ _, .int _ _, .int _ _, .int _ _, .int _ _, .int _ _, .string _]) Tryz.agg30 rfl (Has.own 1 rfl) rfl rfl) ?_
  refine DX.rd rfl rfl rfl (fun _ _ => rd_new Tryz.eqty (p := ⟨w.signer, w.holder, w.rlo, w.rhi, n, w.serial, w.slo, w.shi, w.sig⟩) (q := w) rfl rfl) ?_
  refine DX.sto (v := .agg #[.int _ _, .int _ _, .int _ _, .int _ _, .int _ _, .int _ _, .int _ _, .int _ _, .string _]) (cells' := #[.int _ _, .int _ _, .int _ _, .int _ _, .int _ _, .int _ _, .int _ _, .int _ _, .string _]) rfl rfl Tryz.size30 (fun _ _ => rfl) (fun _ _ => rfl) rfl rfl (Nat.le_of_ble_eq_true rfl) rfl ?_
  refine DX.done [] rfl rfl (by decide) rfl (fun gh13 => ?_)
  refine rdx (rd_assign (v := .bool _) rfl) ?_
  refine TO.nil (TQ.then_normal (T.ret ?_))
  refine TQ.value ?_ (res2 Tryz.results8 (Res.cells (cs := #[.int _ _, .int _ _, .int _ _, .int _ _, .int _ _, .int _ _, .int _ _, .int _ _, .string _]) Tryz.agg30 rfl (Has.own 0 rfl) rfl rfl) (Res.tmp (v := .bool _) rfl)) _ (.inl rfl)
  have hb : bendW w how n = ⟨w.signer, w.holder, w.rlo, w.rhi, n, w.serial, w.slo, w.shi, w.sig⟩ := by rw [bendW, if_neg (by omega), if_neg (by omega), if_neg (by omega), if_neg (by omega), if_pos (by omega)]
  rw [hb]; rfl
 try simp only [nrm] at h12
 refine T.seq (T.region ?_)
 refine rdx (rd_eql rfl rfl) ?_
 refine rdx (rd_assign (v := .bool _) rfl) ?_
 refine TO.nil (TQ.then_normal ?_)
 refine T.cond rfl (fun h14 => ?_) (fun h14 => ?_)
 ·try simp only [nrm] at h14
  refine T.region ?_
  refine rdx (rd_move (v := .int _ _) rfl) ?_
  refine rdx (rd_fieldAddr Tryz.field30_4 rfl) ?_
  refine TO.store0 (cells' := #[.int _ _, .int _ _, .int _ _, .int _ _, .int _ _, .int _ _, .int _ _, .int _ _, .string _]) Tryz.size3 rfl (v := .int _ _) rfl rfl rfl (Nat.le_of_ble_eq_true rfl) rfl ?_
  refine TO.nil (TQ.block_normal (TQ.then_normal (T.seq ?_)))
  refine T.front1 ?_
  refine T.drawo Tryz.mixes 5 [(54, 0), (55, 1), (56, 2), (57, 3)] [0, 0, 0, 6, 1, 31] [] 4 (by kernel_rfl) ?_
  refine DX.rd rfl rfl rfl (fun _ _ => rd_load_agg (cs := #[.int _ _, .int _ _, .int _ _, .int _ _, .int _ _, .int _ _, .int _ _, .int _ _, .string _]) Tryz.agg30 rfl (Has.own 0 rfl) rfl rfl) ?_
  refine DX.rd rfl rfl rfl (fun _ _ => rd_load_agg (cs := #[.int _ _, .int _ _, .int _ _, .int _ _, .int _ _, .int _ _, .int _ _, .int _ _, .string _]) Tryz.agg30 rfl (Has.own 0 rfl) rfl rfl) ?_
  refine DX.rd rfl rfl rfl (fun _ _ => rd_load_agg (cs := #[.int _ _, .int _ _, .int _ _, .int _ _, .int _ _, .int _ _, .int _ _, .int _ _, .string _]) Tryz.agg30 rfl (Has.own 1 rfl) rfl rfl) ?_
  refine DX.rd rfl rfl rfl (fun _ _ => rd_new Tryz.eqty (p := ⟨w.signer, w.holder, w.rlo, w.rhi, w.carrier, n, w.slo, w.shi, w.sig⟩) (q := w) rfl rfl) ?_
  refine DX.sto (v := .agg #[.int _ _, .int _ _, .int _ _, .int _ _, .int _ _, .int _ _, .int _ _, .int _ _, .string _]) (cells' := #[.int _ _, .int _ _, .int _ _, .int _ _, .int _ _, .int _ _, .int _ _, .int _ _, .string _]) rfl rfl Tryz.size30 (fun _ _ => rfl) (fun _ _ => rfl) rfl rfl (Nat.le_of_ble_eq_true rfl) rfl ?_
  refine DX.done [] rfl rfl (by decide) rfl (fun gh15 => ?_)
  refine rdx (rd_assign (v := .bool _) rfl) ?_
  refine TO.nil (TQ.then_normal (T.ret ?_))
  refine TQ.value ?_ (res2 Tryz.results8 (Res.cells (cs := #[.int _ _, .int _ _, .int _ _, .int _ _, .int _ _, .int _ _, .int _ _, .int _ _, .string _]) Tryz.agg30 rfl (Has.own 0 rfl) rfl rfl) (Res.tmp (v := .bool _) rfl)) _ (.inl rfl)
  have hb : bendW w how n = ⟨w.signer, w.holder, w.rlo, w.rhi, w.carrier, n, w.slo, w.shi, w.sig⟩ := by rw [bendW, if_neg (by omega), if_neg (by omega), if_neg (by omega), if_neg (by omega), if_neg (by omega), if_pos (by omega)]
  rw [hb]; rfl
 try simp only [nrm] at h14
 refine T.seq (T.region ?_)
 refine rdx (rd_eql rfl rfl) ?_
 refine rdx (rd_assign (v := .bool _) rfl) ?_
 refine TO.nil (TQ.then_normal ?_)
 refine T.cond rfl (fun h16 => ?_) (fun h16 => ?_)
 ·try simp only [nrm] at h16
  refine T.region ?_
  refine rdx (rd_move (v := .int _ _) rfl) ?_
  refine rdx (rd_fieldAddr Tryz.field30_5 rfl) ?_
  refine rdx (rd_fieldAddr Tryz.field28_0 rfl) ?_
  refine TO.store0 (cells' := #[.int _ _, .int _ _, .int _ _, .int _ _, .int _ _, .int _ _, .int _ _, .int _ _, .string _]) Tryz.size3 rfl (v := .int _ _) rfl rfl rfl (Nat.le_of_ble_eq_true rfl) rfl ?_
  refine TO.nil (TQ.block_normal (TQ.then_normal (T.seq ?_)))
  refine T.front1 ?_
  refine T.drawo Tryz.mixes 5 [(54, 0), (55, 1), (56, 2), (57, 3)] [0, 0, 0, 6, 1, 31] [] 4 (by kernel_rfl) ?_
  refine DX.rd rfl rfl rfl (fun _ _ => rd_load_agg (cs := #[.int _ _, .int _ _, .int _ _, .int _ _, .int _ _, .int _ _, .int _ _, .int _ _, .string _]) Tryz.agg30 rfl (Has.own 0 rfl) rfl rfl) ?_
  refine DX.rd rfl rfl rfl (fun _ _ => rd_load_agg (cs := #[.int _ _, .int _ _, .int _ _, .int _ _, .int _ _, .int _ _, .int _ _, .int _ _, .string _]) Tryz.agg30 rfl (Has.own 0 rfl) rfl rfl) ?_
  refine DX.rd rfl rfl rfl (fun _ _ => rd_load_agg (cs := #[.int _ _, .int _ _, .int _ _, .int _ _, .int _ _, .int _ _, .int _ _, .int _ _, .string _]) Tryz.agg30 rfl (Has.own 1 rfl) rfl rfl) ?_
  refine DX.rd rfl rfl rfl (fun _ _ => rd_new Tryz.eqty (p := ⟨w.signer, w.holder, w.rlo, w.rhi, w.carrier, w.serial, n, w.shi, w.sig⟩) (q := w) rfl rfl) ?_
  refine DX.sto (v := .agg #[.int _ _, .int _ _, .int _ _, .int _ _, .int _ _, .int _ _, .int _ _, .int _ _, .string _]) (cells' := #[.int _ _, .int _ _, .int _ _, .int _ _, .int _ _, .int _ _, .int _ _, .int _ _, .string _]) rfl rfl Tryz.size30 (fun _ _ => rfl) (fun _ _ => rfl) rfl rfl (Nat.le_of_ble_eq_true rfl) rfl ?_
  refine DX.done [] rfl rfl (by decide) rfl (fun gh17 => ?_)
  refine rdx (rd_assign (v := .bool _) rfl) ?_
  refine TO.nil (TQ.then_normal (T.ret ?_))
  refine TQ.value ?_ (res2 Tryz.results8 (Res.cells (cs := #[.int _ _, .int _ _, .int _ _, .int _ _, .int _ _, .int _ _, .int _ _, .int _ _, .string _]) Tryz.agg30 rfl (Has.own 0 rfl) rfl rfl) (Res.tmp (v := .bool _) rfl)) _ (.inl rfl)
  have hb : bendW w how n = ⟨w.signer, w.holder, w.rlo, w.rhi, w.carrier, w.serial, n, w.shi, w.sig⟩ := by rw [bendW, if_neg (by omega), if_neg (by omega), if_neg (by omega), if_neg (by omega), if_neg (by omega), if_neg (by omega), if_pos (by omega)]
  rw [hb]; rfl
 try simp only [nrm] at h16
 refine T.seq (T.region ?_)
 refine rdx (rd_eql rfl rfl) ?_
 refine rdx (rd_assign (v := .bool _) rfl) ?_
 refine TO.nil (TQ.then_normal ?_)
 refine T.cond rfl (fun h18 => ?_) (fun h18 => ?_)
 ·try simp only [nrm] at h18
  refine T.region ?_
  refine rdx (rd_move (v := .int _ _) rfl) ?_
  refine rdx (rd_fieldAddr Tryz.field30_5 rfl) ?_
  refine rdx (rd_fieldAddr Tryz.field28_1 rfl) ?_
  refine TO.store0 (cells' := #[.int _ _, .int _ _, .int _ _, .int _ _, .int _ _, .int _ _, .int _ _, .int _ _, .string _]) Tryz.size3 rfl (v := .int _ _) rfl rfl rfl (Nat.le_of_ble_eq_true rfl) rfl ?_
  refine TO.nil (TQ.block_normal (TQ.then_normal (T.seq ?_)))
  refine T.front1 ?_
  refine T.drawo Tryz.mixes 5 [(54, 0), (55, 1), (56, 2), (57, 3)] [0, 0, 0, 6, 1, 31] [] 4 (by kernel_rfl) ?_
  refine DX.rd rfl rfl rfl (fun _ _ => rd_load_agg (cs := #[.int _ _, .int _ _, .int _ _, .int _ _, .int _ _, .int _ _, .int _ _, .int _ _, .string _]) Tryz.agg30 rfl (Has.own 0 rfl) rfl rfl) ?_
  refine DX.rd rfl rfl rfl (fun _ _ => rd_load_agg (cs := #[.int _ _, .int _ _, .int _ _, .int _ _, .int _ _, .int _ _, .int _ _, .int _ _, .string _]) Tryz.agg30 rfl (Has.own 0 rfl) rfl rfl) ?_
  refine DX.rd rfl rfl rfl (fun _ _ => rd_load_agg (cs := #[.int _ _, .int _ _, .int _ _, .int _ _, .int _ _, .int _ _, .int _ _, .int _ _, .string _]) Tryz.agg30 rfl (Has.own 1 rfl) rfl rfl) ?_
  refine DX.rd rfl rfl rfl (fun _ _ => rd_new Tryz.eqty (p := ⟨w.signer, w.holder, w.rlo, w.rhi, w.carrier, w.serial, w.slo, n, w.sig⟩) (q := w) rfl rfl) ?_
  refine DX.sto (v := .agg #[.int _ _, .int _ _, .int _ _, .int _ _, .int _ _, .int _ _, .int _ _, .int _ _, .string _]) (cells' := #[.int _ _, .int _ _, .int _ _, .int _ _, .int _ _, .int _ _, .int _ _, .int _ _, .string _]) rfl rfl Tryz.size30 (fun _ _ => rfl) (fun _ _ => rfl) rfl rfl (Nat.le_of_ble_eq_true rfl) rfl ?_
  refine DX.done [] rfl rfl (by decide) rfl (fun gh19 => ?_)
  refine rdx (rd_assign (v := .bool _) rfl) ?_
  refine TO.nil (TQ.then_normal (T.ret ?_))
  refine TQ.value ?_ (res2 Tryz.results8 (Res.cells (cs := #[.int _ _, .int _ _, .int _ _, .int _ _, .int _ _, .int _ _, .int _ _, .int _ _, .string _]) Tryz.agg30 rfl (Has.own 0 rfl) rfl rfl) (Res.tmp (v := .bool _) rfl)) _ (.inl rfl)
  have hb : bendW w how n = ⟨w.signer, w.holder, w.rlo, w.rhi, w.carrier, w.serial, w.slo, n, w.sig⟩ := by rw [bendW, if_neg (by omega), if_neg (by omega), if_neg (by omega), if_neg (by omega), if_neg (by omega), if_neg (by omega), if_neg (by omega), if_pos (by omega)]
  rw [hb]; rfl
 try simp only [nrm] at h18
 refine T.region ?_
 refine rdx (rd_fieldAddr Tryz.field30_2 rfl) ?_
 refine rdx (rd_fieldAddr Tryz.field27_1 rfl) ?_
 refine rdx (rd_load (v := .int _ _) Tryz.one3 rfl (Has.own 0 rfl) rfl) ?_
 refine rdx (rd_add rfl rfl (w64 (by omega) (by omega))) ?_
 refine rdx (rd_fieldAddr Tryz.field30_2 rfl) ?_
 refine rdx (rd_fieldAddr Tryz.field27_1 rfl) ?_
 refine TO.store0 (cells' := #[.int _ _, .int _ _, .int _ _, .int _ _, .int _ _, .int _ _, .int _ _, .int _ _, .string _]) Tryz.size3 rfl (v := .int _ _) rfl rfl rfl (Nat.le_of_ble_eq_true rfl) rfl ?_
 refine TO.nil (TQ.block_normal (TQ.then_normal (T.seq ?_)))
 refine T.front1 ?_
 refine T.drawo Tryz.mixes 5 [(54, 0), (55, 1), (56, 2), (57, 3)] [0, 0, 0, 6, 1, 31] [] 4 (by kernel_rfl) ?_
 refine DX.rd rfl rfl rfl (fun _ _ => rd_load_agg (cs := #[.int _ _, .int _ _, .int _ _, .int _ _, .int _ _, .int _ _, .int _ _, .int _ _, .string _]) Tryz.agg30 rfl (Has.own 0 rfl) rfl rfl) ?_
 refine DX.rd rfl rfl rfl (fun _ _ => rd_load_agg (cs := #[.int _ _, .int _ _, .int _ _, .int _ _, .int _ _, .int _ _, .int _ _, .int _ _, .string _]) Tryz.agg30 rfl (Has.own 0 rfl) rfl rfl) ?_
 refine DX.rd rfl rfl rfl (fun _ _ => rd_load_agg (cs := #[.int _ _, .int _ _, .int _ _, .int _ _, .int _ _, .int _ _, .int _ _, .int _ _, .string _]) Tryz.agg30 rfl (Has.own 1 rfl) rfl rfl) ?_
 refine DX.rd rfl rfl rfl (fun _ _ => rd_new Tryz.eqty (p := ⟨w.signer, w.holder, w.rlo, (w.rhi + 1), w.carrier, w.serial, w.slo, w.shi, w.sig⟩) (q := w) rfl rfl) ?_
 refine DX.sto (v := .agg #[.int _ _, .int _ _, .int _ _, .int _ _, .int _ _, .int _ _, .int _ _, .int _ _, .string _]) (cells' := #[.int _ _, .int _ _, .int _ _, .int _ _, .int _ _, .int _ _, .int _ _, .int _ _, .string _]) rfl rfl Tryz.size30 (fun _ _ => rfl) (fun _ _ => rfl) rfl rfl (Nat.le_of_ble_eq_true rfl) rfl ?_
 refine DX.done [] rfl rfl (by decide) rfl (fun gh20 => ?_)
 refine rdx (rd_assign (v := .bool _) rfl) ?_
 refine TO.nil (TQ.then_normal (T.ret ?_))
 refine TQ.value ?_ (res2 Tryz.results8 (Res.cells (cs := #[.int _ _, .int _ _, .int _ _, .int _ _, .int _ _, .int _ _, .int _ _, .int _ _, .string _]) Tryz.agg30 rfl (Has.own 0 rfl) rfl rfl) (Res.tmp (v := .bool _) rfl)) _ (.inl rfl)
 have hb : bendW w how n = ⟨w.signer, w.holder, w.rlo, (w.rhi + 1), w.carrier, w.serial, w.slo, w.shi, w.sig⟩ := by rw [bendW, if_neg (by omega), if_neg (by omega), if_neg (by omega), if_neg (by omega), if_neg (by omega), if_neg (by omega), if_neg (by omega), if_neg (by omega)]
 rw [hb]; rfl
end Go.Proofs
end
section
set_option linter.unusedVariables false
set_option linter.unusedSimpArgs false
set_option maxRecDepth 100000
set_option maxHeartbeats 800000
namespace Go.Proofs
open Go.TL
attribute [local irreducible] Go.TL.T Go.TL.TO Go.TL.TQ
end Go.Proofs
end
section
set_option linter.unusedVariables false
set_option linter.unusedSimpArgs false
set_option maxRecDepth 100000
set_option maxHeartbeats 800000
namespace Go.Proofs
open Go.TL
attribute [local irreducible] Go.TL.T Go.TL.TO Go.TL.TQ
set_option maxHeartbeats 12800000 in
theorem c_law15_WishTextsMatchReference (u : Nums) (A : Option Addr) (m cap : Nat) (hm : m = u.chain.length) (hx : NumsOk u) (hcl : u.chain.length ≤ 9223372036854775807) (how n at_ : Int) (c : UInt8) (tx kx : Bytes) (nu ep : Int) (cd : Bytes) (how0 : -9223372036854775808 ≤ how) (how1 : how ≤ 9223372036854775807) (at_0 : -9223372036854775808 ≤ at_) (at_1 : at_ ≤ 9223372036854775807) (nu0 : -9223372036854775808 ≤ nu) (nu1 : nu ≤ 9223372036854775807) (ep0 : -9223372036854775808 ≤ ep) (ep1 : ep ≤ 9223372036854775807) (htx : tx.length ≤ 9223372036854775807) (hkx : kx.length ≤ 9223372036854775807) (hcd : cd.length ≤ 9223372036854775807) : Cv Tryz.prog 4 #[.agg #[.int .i64 u.holder, .int .i64 u.r0, .int .i64 u.r1, .int .i64 u.s0, .int .i64 u.s1, .int .i64 u.carrier, .int .i64 u.serial, .slice A m cap], .int .i64 how, .int .i64 n, .int .i64 at_, .int .u8 c.toNat, .string (str tx), .string (str kx), .int .i64 nu, .int .i64 ep, .string (str cd)] [glob 0 roundC 162, slc fiveL 5 A u.chain] (.bool true) := by
 subst hm
 have M := made u
 obtain ⟨g1, g2⟩ := M.sg
 obtain ⟨g3, g4⟩ := M.hd
 obtain ⟨g5, g6, g7⟩ := M.rg
 obtain ⟨g8, g9, g0⟩ := M.sp
 have hll := M.len
 have hsig := M.sig
 refine Ctr.intro Tryz.func4 rfl Tryz.ntmps4 (Nat.le_of_ble_eq_true rfl) fun S0 w0 => ?_
 refine T.seq (T.region ?_)
 refine TO.box (v := .agg #[.int _ _, .int _ _, .int _ _, .int _ _, .int _ _, .int _ _, .int _ _, .slice _ _ _]) rfl (fun b1 => ?_)
 refine rdx (rd_assign (v := .bool _) rfl) ?_
 refine TO.nil (TQ.then_normal (T.seq (T.region ?_)))
 refine TO.fn Tryz.enters6 (cv_b (c_law15_sane) (rfl)) rfl (ReadsC (Has.arg 0 rfl) Reads0) ?_
 refine rdx (rd_assign (v := .bool _) rfl) ?_
 refine TO.nil (TQ.then_normal (T.seq (T.seq (T.region ?_))))
 refine rdx (rd_move (v := .bool _) rfl) ?_
 refine rdx (rd_not rfl) ?_
 refine TO.nil (TQ.then_normal ?_)
 refine T.cond_false rfl ?_
 refine T.skip (TQ.then_normal (T.seq (T.region ?_)))
 refine rdx (rd_load_agg (cs := #[.int _ _, .int _ _, .int _ _, .int _ _, .int _ _, .int _ _, .int _ _, .slice _ _ _]) Tryz.agg25 rfl (Has.own 0 rfl) rfl rfl) ?_
 refine TO.fnx Tryz.enters7 (c_ref15_Made u _ _ _ rfl hx hcl) rfl (ReadsC (Has.arg 1 rfl) Reads0) (fun ⟨A2, c3⟩ hx4 => ?_)
 refine rdx (rd_move (v := .tuple _) rfl) ?_
 refine rdx (rd_extract (v := .agg _) (vs := _) rfl rfl) ?_
 refine rdx (rd_extract (v := .slice _ _ _) (vs := _) rfl rfl) ?_
 refine TO.alloc Tryz.zero30 (fun b6 => ?_)
 refine TO.store0 (cells' := #[.int _ _, .int _ _, .int _ _, .int _ _, .int _ _, .int _ _, .int _ _, .int _ _, .string _]) Tryz.size30 rfl (v := .agg #[.int _ _, .int _ _, .int _ _, .int _ _, .int _ _, .int _ _, .int _ _, .int _ _, .string _]) rfl rfl rfl (Nat.le_of_ble_eq_true rfl) rfl ?_
 refine rdx (rd_assign (v := .slice _ _ _) rfl) ?_
 refine TO.nil (TQ.then_normal (T.seq (T.region ?_)))
 refine rdx (rd_load_agg (cs := #[.int _ _, .int _ _, .int _ _, .int _ _, .int _ _, .int _ _, .int _ _, .int _ _, .string _]) Tryz.agg30 rfl (Has.own 0 rfl) rfl rfl) ?_
 refine rdx (rd_move (v := .int _ _) rfl) ?_
 refine rdx (rd_move (v := .int _ _) rfl) ?_
 refine TO.fn Tryz.enters8 (c_ref15_BentWish (madeW u) (how) (n) (by omega) (by omega) (by omega) (by omega)) rfl Reads0 ?_
 refine rdx (rd_move (v := .tuple _) rfl) ?_
 refine rdx (rd_extract (v := .agg _) (vs := _) rfl rfl) ?_
 refine rdx (rd_extract (v := .bool _) (vs := _) rfl rfl) ?_
 refine TO.alloc Tryz.zero30 (fun b7 => ?_)
 refine TO.store0 (cells' := #[.int _ _, .int _ _, .int _ _, .int _ _, .int _ _, .int _ _, .int _ _, .int _ _, .string _]) Tryz.size30 rfl (v := .agg #[.int _ _, .int _ _, .int _ _, .int _ _, .int _ _, .int _ _, .int _ _, .int _ _, .string _]) rfl rfl rfl (Nat.le_of_ble_eq_true rfl) rfl ?_
 refine rdx (rd_assign (v := .bool _) rfl) ?_
 refine TO.nil (TQ.then_normal (T.seq (T.region ?_)))
 refine rdx (rd_load_agg (cs := #[.int _ _, .int _ _, .int _ _, .int _ _, .int _ _, .int _ _, .int _ _, .int _ _, .string _]) Tryz.agg30 rfl (Has.own 1 rfl) rfl rfl) ?_
 refine TO.alloc Tryz.zero30 (fun b8 => ?_)
 refine TO.store0 (cells' := #[.int _ _, .int _ _, .int _ _, .int _ _, .int _ _, .int _ _, .int _ _, .int _ _, .string _]) Tryz.size30 rfl (v := .agg #[.int _ _, .int _ _, .int _ _, .int _ _, .int _ _, .int _ _, .int _ _, .int _ _, .string _]) rfl rfl rfl (Nat.le_of_ble_eq_true rfl) rfl ?_
 refine TO.nil (TQ.then_normal (T.seq (T.region ?_)))
 refine rdx (rd_fieldAddr Tryz.field30_6 rfl) ?_
 refine rdx (rd_load (v := .string _) Tryz.one9 rfl (Has.own 2 rfl) rfl) ?_
 refine rdx (rd_sub_str (i := 0) (j := 31) Tryz.under9 rfl (.inl ⟨rfl, rfl⟩) (.inr ⟨_, rfl⟩) (by omega) (by omega) rfl) ?_
 refine rdx (rd_fieldAddr Tryz.field30_6 rfl) ?_
 refine TO.store0 (cells' := #[.int _ _, .int _ _, .int _ _, .int _ _, .int _ _, .int _ _, .int _ _, .int _ _, .string _]) Tryz.size9 rfl (v := .string _) rfl rfl rfl (Nat.le_of_ble_eq_true rfl) rfl ?_
 refine TO.nil (TQ.then_normal (T.seq (T.region ?_)))
 refine rdx (rd_move (v := .string _) rfl) ?_
 refine rdx (rd_move (v := .string _) rfl) ?_
 refine rdx (rd_lens' Tryz.under9 rfl) ?_
 refine rdx (rd_min2 (s := ((min tx.length 300 : Nat) : Int)) rfl rfl (by split <;> omega)) ?_
 refine rdx (rd_sub_str (i := 0) (j := min tx.length 300) Tryz.under9 rfl (.inl ⟨rfl, rfl⟩) (.inr ⟨_, rfl⟩) (by omega) (by omega) rfl) ?_
 refine TO.buildS (cs := [.string _]) Tryz.under32 Tryz.size9 Tryz.zero9 (Nat.le_of_ble_eq_true rfl) rfl (fun b9 => ?_)
 refine rdx (rd_assign (v := .slice _ _ _) rfl) ?_
 refine TO.nil (TQ.then_normal (T.seq (T.seq (T.region ?_))))
 refine rdx (rd_load_agg (cs := #[.int _ _, .int _ _, .int _ _, .int _ _, .int _ _, .int _ _, .int _ _, .int _ _, .string _]) Tryz.agg30 rfl (Has.own 3 rfl) rfl rfl) ?_
 refine rdx (rd_load_agg (cs := #[.int _ _, .int _ _, .int _ _, .int _ _, .int _ _, .int _ _, .int _ _, .int _ _, .string _]) Tryz.agg30 rfl (Has.own 2 rfl) rfl rfl) ?_
 refine rdx (rd_load_agg (cs := #[.int _ _, .int _ _, .int _ _, .int _ _, .int _ _, .int _ _, .int _ _, .int _ _, .string _]) Tryz.agg30 rfl (Has.own 1 rfl) rfl rfl) ?_
 refine rdx (rd_build (cs := [.int _ _, .int _ _, .int _ _, .int _ _, .int _ _, .int _ _, .int _ _, .int _ _, .string _]) Tryz.places30 Tryz.zero30 rfl rfl) ?_
 refine TO.buildS (cs := [_, _, _, _, _, _, _, _, _, _, _, _, _, _, _, _, _, _, _, _, _, _, _, _, _, _, _, _, _, _, _, _, _, _, _, _]) Tryz.under44 Tryz.size30 Tryz.zero30 (Nat.le_of_ble_eq_true rfl) rfl (fun b10 => ?_)
 refine rdx (rd_lensl Tryz.under44 rfl) ?_
 refine rdx (rd_move (v := .int _ _) rfl) ?_
 refine TO.nil (TQ.then_normal (T.block ?_))
 refine T.front1 ?_
 refine T.torow0 1 1 rfl (by decide) ?_
 refine T.loop5 [3, 4, 6, 7, 8, 9, 21, 23, 80, 81] (fun (A1 : Option Addr) (cap1 : Nat) (n1 : Nat) (tl : List Bytes) (p : Nat) => [(27, .slice A1 n1 cap1), (82, .int .i64 (p : Nat))]) (fun (A1 : Option Addr) (cap1 : Nat) (n1 : Nat) (tl : List Bytes) (p : Nat) => [row 9 1 A1 n1 cap1 (tl.flatMap eStr)]) (fun (A1 : Option Addr) (cap1 : Nat) (n1 : Nat) (tl : List Bytes) (p : Nat) => n1 = tl.length ∧ p ≤ 4 ∧ n1 ≤ 1 + 4 * p ∧ ∀ z ∈ tl, z.length ≤ 1000000) (fun (A1 : Option Addr) (cap1 : Nat) (n1 : Nat) (tl : List Bytes) (p : Nat) => 4 - p) ((some ⟨b9, 0, none⟩)) (1) (1) ([((tx.take (min tx.length 300)).drop 0)]) (0) (⟨rfl, Nat.zero_le _, Nat.le_refl _, fun z hz => by rw [List.mem_singleton] at hz; subst hz; simp only [List.length_drop, List.length_take]; omega⟩) (And.intro (rfl) (And.intro (rfl) (trivial))) (fun _ _ h => h) fun A1 cap1 n1 tl p g0 hx0 => ?_
 obtain ⟨htn, hp, hn1, htl⟩ := hx0
 refine T.seq (T.region ?_)
 refine rdx (rd_lss rfl rfl) ?_
 refine TO.nil (TQ.then_normal (T.seq ?_))
 refine T.cond rfl (fun h11 => ?_) (fun h11 => ?_)
 ·try simp only [nrm] at h11
  refine T.skip (TQ.then_normal (T.seq (T.block (T.seq (T.region ?_)))))
  refine rdx (rd_ix (k := p) Tryz.under44 Tryz.size30 rfl rfl (own_slc (e := wishL) (sz := 9) [madeW u, bendW (madeW u) how n, { madeW u with sig := ((madeW u).sig.take 31).drop 0 }, wish0] rfl (fun _ => rfl) (Has.own 1 rfl) (by simp)) rfl (by first | omega | (simp only [List.length_cons, List.length_nil]; omega)) (by first | omega | (simp only [List.length_cons, List.length_nil]; omega))) ?_
  refine rdx (rd_ela (cs := [.int _ _, .int _ _, .int _ _, .int _ _, .int _ _, .int _ _, .int _ _, .int _ _, .string _]) p 0 Tryz.agg30 rfl (own_slc (e := wishL) (sz := 9) [madeW u, bendW (madeW u) how n, { madeW u with sig := ((madeW u).sig.take 31).drop 0 }, wish0] rfl (fun _ => rfl) (Has.own 1 rfl) (by simp)) rfl (by first | omega | (simp only [List.length_cons, List.length_nil]; omega)) (Nat.le_of_ble_eq_true rfl) rfl rfl rfl) ?_
  obtain ⟨v, hv⟩ : ∃ v, [madeW u, bendW (madeW u) how n, { madeW u with sig := ((madeW u).sig.take 31).drop 0 }, wish0][p]'(by simp only [List.length_cons, List.length_nil]; omega) = v := ⟨_, rfl⟩
  rw [hv]
  refine TO.alloc Tryz.zero30 (fun b12 => ?_)
  refine TO.store0 (cells' := #[.int _ _, .int _ _, .int _ _, .int _ _, .int _ _, .int _ _, .int _ _, .int _ _, .string _]) Tryz.size30 rfl (v := .agg #[.int _ _, .int _ _, .int _ _, .int _ _, .int _ _, .int _ _, .int _ _, .int _ _, .string _]) rfl rfl rfl (Nat.le_of_ble_eq_true rfl) rfl ?_
  refine TO.nil (TQ.then_normal (T.seq (T.region ?_)))
  refine rdx (rd_load_agg (cs := #[.int _ _, .int _ _, .int _ _, .int _ _, .int _ _, .int _ _, .int _ _, .int _ _, .string _]) Tryz.agg30 rfl (Has.own 0 rfl) rfl rfl) ?_
  refine rdx (rd_move (v := .slice _ _ _) rfl) ?_
  refine TO.fn Tryz.enters24 (c_wish_Encode (v) _ _ _ (madeL u) (by first | rfl | simp | omega) (by first | omega | assumption | simp)) rfl (ReadsC (row_slc' (e := proxyL) (xs := (madeL u)) (fun _ => rfl) (rfl) (rfl) (Has.own 6 rfl)) Reads0) ?_
  refine rdx (rd_move (v := .tuple _) rfl) ?_
  refine rdx (rd_extract (v := .string _) (vs := _) rfl rfl) ?_
  refine rdx (rd_extract (v := .int _ _) (vs := _) rfl rfl) ?_
  refine rdx (rd_assign (v := .string _) rfl) ?_
  refine rdx (rd_assign (v := .int _ _) rfl) ?_
  refine TO.nil (TQ.then_normal (T.seq (T.region ?_)))
  refine rdx (rd_load_agg (cs := #[.int _ _, .int _ _, .int _ _, .int _ _, .int _ _, .int _ _, .int _ _, .int _ _, .string _]) Tryz.agg30 rfl (Has.own 0 rfl) rfl rfl) ?_
  refine rdx (rd_move (v := .slice _ _ _) rfl) ?_
  refine TO.fn Tryz.enters25 (c_ref15_Encode (v) _ _ _ (madeL u) (by first | rfl | simp | omega) (by first | omega | assumption | (simp; done))) rfl (ReadsC (row_slc' (e := proxyL) (xs := (madeL u)) (fun _ => rfl) (rfl) (rfl) (Has.own 6 rfl)) Reads0) ?_
  have hzl := encode_le v (madeL u)
  obtain ⟨z, hz⟩ : ∃ z, (encode v (madeL u)).1 = z := ⟨_, rfl⟩
  rw [hz] at hzl ⊢
  refine rdx (rd_move (v := .tuple _) rfl) ?_
  refine rdx (rd_extract (v := .string _) (vs := _) rfl rfl) ?_
  refine rdx (rd_extract (v := .int _ _) (vs := _) rfl rfl) ?_
  refine rdx (rd_assign (v := .string _) rfl) ?_
  refine rdx (rd_assign (v := .int _ _) rfl) ?_
  refine TO.nil (TQ.then_normal (T.seq (T.seq (T.region ?_))))
  refine rdx (rd_move (v := .string _) rfl) ?_
  refine rdx (rd_move (v := .string _) rfl) ?_
  refine rdx (rd_b (b := false) (rd_nes' rfl rfl) (by simp)) ?_
  refine rdx (rd_move (v := .bool _) rfl) ?_
  refine TO.guard_true (s := 101) rfl rfl ?_
  refine rdx (rd_move (v := .int _ _) rfl) ?_
  refine TO.guard_true (s := 101) rfl rfl ?_
  refine rdx (rd_move (v := .int _ _) rfl) ?_
  refine TO.guard_true (s := 101) rfl rfl ?_
  refine rdx (rd_b (b := false) (rd_neq rfl rfl) (by simp)) ?_
  refine rdx (rd_pick_false (v := .bool _) rfl rfl) ?_
  refine TO.nil (TQ.then_normal ?_)
  refine T.cond_false rfl ?_
  refine T.skip (TQ.then_normal (T.seq (T.region ?_)))
  refine rdx (rd_move (v := .string _) rfl) ?_
  refine rdx (rd_lens' Tryz.under9 rfl) ?_
  refine rdx (rd_gtr rfl rfl) ?_
  refine TO.nil (TQ.then_normal ?_)
  refine T.cond_ft rfl (fun h13 => ?_) (fun h13 => ?_)
  ·try simp only [nrm] at h13
   refine T.skip (TQ.block_normal (TQ.then_normal (T.region ?_)))
   refine rdx (rd_add rfl rfl (w64 (by first | omega | (simp only [List.length_cons, List.length_nil]; omega)) (by first | omega | (simp only [List.length_cons, List.length_nil]; omega)))) ?_
   refine rdx (rd_move (v := .int _ _) rfl) ?_
   refine TO.nil ?_
   refine TQ.againk (A1, cap1, n1, tl, p + 1) ?_ ?_ (And.intro (rfl) (And.intro (rfl) (trivial))) (And.intro (rfl) (And.intro (rfl) (And.intro (rfl) (And.intro (rfl) (And.intro (rfl) (And.intro (rfl) (And.intro (rfl) (And.intro (rfl) (And.intro (rfl) (And.intro (rfl) (trivial))))))))))) (fun _ _ h => h.sel (js := [1, 2, 3, 4, 5, 6, 7]) (by decide))
   ·first | exact ⟨htn, by dsimp only; omega, by dsimp only; omega, htl⟩ | (refine ⟨by dsimp only; rw [List.length_append, htn]; rfl, by dsimp only; omega, by dsimp only; omega, all_app htl fun y hy => ?_⟩; simp only [List.mem_cons, List.not_mem_nil, or_false] at hy; rcases hy with rfl | rfl | rfl | rfl <;> first | omega | (simp only [List.length_append, List.length_drop, List.length_take, List.length_cons, List.length_nil]; omega))
   ·first | omega | (dsimp only; omega)
  try simp only [nrm] at h13
  refine T.seq (T.region ?_)
  refine rdx (rd_move (v := .int _ _) rfl) ?_
  refine rdx (rd_move (v := .string _) rfl) ?_
  refine rdx (rd_lens' Tryz.under9 rfl) ?_
  have q1 := pickN_lo (c := at_) (n := (z.length : Int)) (by omega)
  have q2 := pickN_hi (c := at_) (n := (z.length : Int)) (by omega)
  refine TO.fn Tryz.enters9 (c_law15_pick _ _ (by omega) (by omega) (by omega) (by omega)) rfl Reads0 ?_
  obtain ⟨k, hk⟩ : ∃ k : Nat, pickN at_ (z.length : Int) = (k : Int) := ⟨_, (Int.toNat_of_nonneg q1).symm⟩
  rw [hk]
  have hkl : k < z.length := by omega
  refine rdx (rd_assign (v := .int _ _) rfl) ?_
  refine TO.nil (TQ.then_normal ?_)
  refine T.drawg Tryz.mixes 22 [(113, 0), (114, 1), (115, 2), (116, 3), (117, 4), (118, 5), (119, 6), (120, 7), (121, 8), (122, 9), (123, 10), (124, 11), (125, 12), (126, 13), (127, 14), (128, 15), (129, 16), (130, 17), (131, 18), (132, 19), (133, 20), (134, 21)] [0, 0, 0, 0, 12, 0, 32, 96, 252, 0, 0, 1024, 3584, 8188, 0, 0, 49152, 0, 0, 262144, 917504, 2097150, 4194303, 8388607] [6, 21] (by kernel_rfl) ?_
  refine DG.rd rfl rfl rfl (fun _ _ => rd_move (v := .slice _ _ _) rfl) ?_
  refine DG.rd rfl rfl rfl (fun _ _ => rd_move (v := .string _) rfl) ?_
  refine DG.rd rfl rfl rfl (fun _ _ => rd_move (v := .string _) rfl) ?_
  refine DG.rd rfl rfl rfl (fun _ _ => rd_move (v := .int _ _) rfl) ?_
  refine DG.rd rfl rfl rfl (fun _ _ => rd_sub_str (i := 0) (j := k) Tryz.under9 rfl (.inl ⟨rfl, rfl⟩) (.inr ⟨.i64, by exact eqv (by omega)⟩) (by omega) (by omega) rfl) ?_
  refine DG.rd rfl rfl rfl (fun _ _ => rd_move (v := .int _ _) rfl) ?_
  refine DG.buildS (cs := [.int _ _]) rfl rfl Tryz.under62 Tryz.size5 Tryz.zero5 (Nat.le_of_ble_eq_true rfl) (fun _ _ => rfl) ?_
  refine DG.rdp rfl rfl rfl (fun ρ g M hM => rd_row_str (l := [c]) (k := 1) (cap := 1) Tryz.under62 Tryz.under5 Tryz.under9 rfl (has_ownrow rfl (by decide) (Has.fromM 6 (hM 6 rfl)))) ?_
  refine DG.rd rfl rfl rfl (fun _ _ => rd_cat' rfl rfl (by first | omega | (simp only [List.length_append, List.length_drop, List.length_take, List.length_cons, List.length_nil]; omega)) rfl) ?_
  refine DG.rd rfl rfl rfl (fun _ _ => rd_move (v := .string _) rfl) ?_
  refine DG.rd rfl rfl rfl (fun _ _ => rd_move (v := .int _ _) rfl) ?_
  refine DG.rd rfl rfl rfl (fun _ _ => rd_add rfl rfl (w64 (by first | omega | (simp only [List.length_cons, List.length_nil]; omega)) (by first | omega | (simp only [List.length_cons, List.length_nil]; omega)))) ?_
  refine DG.rd rfl rfl rfl (fun _ _ => rd_sub_str (i := k + 1) (j := z.length) Tryz.under9 rfl (.inr ⟨.i64, by exact eqv (by omega)⟩) (.inl ⟨rfl, rfl⟩) (by omega) (by omega) rfl) ?_
  refine DG.rd rfl rfl rfl (fun _ _ => rd_cat' rfl rfl (by first | omega | (simp only [List.length_append, List.length_drop, List.length_take, List.length_cons, List.length_nil]; omega)) rfl) ?_
  refine DG.rd rfl rfl rfl (fun _ _ => rd_move (v := .string _) rfl) ?_
  refine DG.rd rfl rfl rfl (fun _ _ => rd_move (v := .int _ _) rfl) ?_
  refine DG.rd rfl rfl rfl (fun _ _ => rd_sub_str (i := 0) (j := k) Tryz.under9 rfl (.inl ⟨rfl, rfl⟩) (.inr ⟨.i64, by exact eqv (by omega)⟩) (by omega) (by omega) rfl) ?_
  refine DG.rd rfl rfl rfl (fun _ _ => rd_move (v := .string _) rfl) ?_
  refine DG.rd rfl rfl rfl (fun _ _ => rd_move (v := .string _) rfl) ?_
  refine DG.rd rfl rfl rfl (fun _ _ => rd_sub_str (i := 0) (j := 1) Tryz.under9 rfl (.inl ⟨rfl, rfl⟩) (.inr ⟨_, rfl⟩) (by omega) (by omega) rfl) ?_
  refine DG.rd rfl rfl rfl (fun _ _ => rd_cat' rfl rfl (by first | omega | (simp only [List.length_append, List.length_drop, List.length_take, List.length_cons, List.length_nil]; omega)) rfl) ?_
  refine DG.buildS (cs := [.string _, .string _, .string _, .string _]) rfl rfl Tryz.under32 Tryz.size9 Tryz.zero9 (Nat.le_of_ble_eq_true rfl) (fun _ _ => rfl) ?_
  refine DG.done rfl (by decide) rfl (fun gh16 => ?_)
  refine TO.front3 ?_
  refine TO.app Tryz.trow9 Tryz.under32 (.inl ⟨_, Tryz.under32⟩) rfl rfl (Src.own1 2 rfl rfl) rfl rfl (by omega) (fun A17 c18 hc19 => ?_)
  refine TO.row_eq (k' := n1 + 4) (cs' := (tl ++ [z, (z.take k).drop 0 ++ [c] ++ (z.take z.length).drop (k + 1), (z.take k).drop 0, z ++ (z.take 1).drop 0]).flatMap eStr) rfl (by rw [List.flatMap_append]; rfl) ?_
  refine rdx (rd_assign (v := .slice _ _ _) rfl) ?_
  refine TO.nil (TQ.block_normal (TQ.then_normal (T.region ?_)))
  refine rdx (rd_add rfl rfl (w64 (by first | omega | (simp only [List.length_cons, List.length_nil]; omega)) (by first | omega | (simp only [List.length_cons, List.length_nil]; omega)))) ?_
  refine rdx (rd_move (v := .int _ _) rfl) ?_
  refine TO.nil ?_
  refine TQ.againk (A17, c18, n1 + 4, tl ++ [z, (z.take k).drop 0 ++ [c] ++ (z.take z.length).drop (k + 1), (z.take k).drop 0, z ++ (z.take 1).drop 0], p + 1) ?_ ?_ (And.intro (rfl) (And.intro (rfl) (trivial))) (And.intro (rfl) (And.intro (rfl) (And.intro (rfl) (And.intro (rfl) (And.intro (rfl) (And.intro (rfl) (And.intro (rfl) (And.intro (rfl) (And.intro (rfl) (And.intro (rfl) (trivial))))))))))) (fun _ _ h => h.sel (js := [0, 4, 5, 6, 7, 8, 9]) (by decide))
  ·first | exact ⟨htn, by dsimp only; omega, by dsimp only; omega, htl⟩ | (refine ⟨by dsimp only; rw [List.length_append, htn]; rfl, by dsimp only; omega, by dsimp only; omega, all_app htl fun y hy => ?_⟩; simp only [List.mem_cons, List.not_mem_nil, or_false] at hy; rcases hy with rfl | rfl | rfl | rfl <;> first | omega | (simp only [List.length_append, List.length_drop, List.length_take, List.length_cons, List.length_nil]; omega))
  ·first | omega | (dsimp only; omega)
 try simp only [nrm] at h11
 refine T.exit (TQ.then_exit (TQ.then_exit (TQ.block_out (TQ.then_normal (T.seq (T.seq (T.region ?_)))))))
 refine rdx (rd_assign (v := .int _ _) rfl) ?_
 refine TO.nil (TQ.then_normal (T.block ?_))
 refine T.loop1 [3, 6, 7, 8, 9, 21, 27] (fun (q : Nat) => [(35, .int .i64 (q : Nat))]) (fun (q : Nat) => []) (fun (q : Nat) => q ≤ tl.length) (fun (q : Nat) => tl.length - q) (0) (Nat.zero_le _) (And.intro (rfl) (trivial)) (fun _ _ h => h) fun q g1 hx1 => ?_
 refine T.seq (T.seq (T.region ?_))
 refine rdx (rd_move (v := .int _ _) rfl) ?_
 refine rdx (rd_move (v := .slice _ _ _) rfl) ?_
 refine rdx (rd_lensl Tryz.under32 rfl) ?_
 refine rdx (rd_lss rfl rfl) ?_
 refine TO.nil (TQ.then_normal ?_)
 refine T.cond rfl (fun h20 => ?_) (fun h20 => ?_)
 ·try simp only [nrm] at h20
  refine T.skip (TQ.then_normal (T.seq (T.block (T.seq (T.region ?_)))))
  refine rdx (rd_move (v := .slice _ _ _) rfl) ?_
  refine rdx (rd_move (v := .int _ _) rfl) ?_
  refine rdx (rd_ix (k := q) Tryz.under32 Tryz.size9 rfl rfl (row_slc' (e := eStr) (xs := tl) (fun _ => rfl) (htn) (rfl) (Has.own 0 rfl)) rfl (by first | omega | (simp only [List.length_cons, List.length_nil]; omega)) (by first | omega | (simp only [List.length_cons, List.length_nil]; omega))) ?_
  refine rdx (rd_el (v := .string _) q 0 Tryz.one9 rfl (row_slc' (e := eStr) (xs := tl) (fun _ => rfl) (htn) (rfl) (Has.own 0 rfl)) rfl (by first | omega | (simp only [List.length_cons, List.length_nil]; omega)) (Nat.le_of_ble_eq_true rfl) rfl) ?_
  obtain ⟨z, hz⟩ : ∃ z, tl[q]'(by omega) = z := ⟨_, rfl⟩
  rw [hz]
  have hzl : z.length ≤ 1000000000000 := by have := htl z (hz ▸ List.getElem_mem _); omega
  refine TO.fnx Tryz.enters26 (c_wish_Decode (z) (by first | omega | assumption | exact sane_e2)) rfl Reads0 (fun ⟨A21, cap22⟩ hx23 => ?_)
  refine rdx (rd_move (v := .tuple _) rfl) ?_
  refine rdx (rd_extract (v := .agg _) (vs := _) rfl rfl) ?_
  refine rdx (rd_extract (v := .slice _ _ _) (vs := _) rfl rfl) ?_
  refine rdx (rd_extract (v := .int _ _) (vs := _) rfl rfl) ?_
  refine TO.alloc Tryz.zero30 (fun b25 => ?_)
  refine TO.store0 (cells' := #[.int _ _, .int _ _, .int _ _, .int _ _, .int _ _, .int _ _, .int _ _, .int _ _, .string _]) Tryz.size30 rfl (v := .agg #[.int _ _, .int _ _, .int _ _, .int _ _, .int _ _, .int _ _, .int _ _, .int _ _, .string _]) rfl rfl rfl (Nat.le_of_ble_eq_true rfl) rfl ?_
  refine rdx (rd_assign (v := .slice _ _ _) rfl) ?_
  refine rdx (rd_assign (v := .int _ _) rfl) ?_
  refine TO.nil (TQ.then_normal (T.seq (T.region ?_)))
  refine rdx (rd_move (v := .slice _ _ _) rfl) ?_
  refine rdx (rd_move (v := .int _ _) rfl) ?_
  refine rdx (rd_ix (k := q) Tryz.under32 Tryz.size9 rfl rfl (row_slc' (e := eStr) (xs := tl) (fun _ => rfl) (htn) (rfl) (Has.own 2 rfl)) rfl (by first | omega | (simp only [List.length_cons, List.length_nil]; omega)) (by first | omega | (simp only [List.length_cons, List.length_nil]; omega))) ?_
  refine rdx (rd_el (v := .string _) q 0 Tryz.one9 rfl (row_slc' (e := eStr) (xs := tl) (fun _ => rfl) (htn) (rfl) (Has.own 2 rfl)) rfl (by first | omega | (simp only [List.length_cons, List.length_nil]; omega)) (Nat.le_of_ble_eq_true rfl) rfl) ?_
  rw [hz]
  refine TO.fnx Tryz.enters27 (c_ref15_Decode (z) (by first | omega | assumption)) rfl Reads0 (fun ⟨A26, cap27⟩ hx28 => ?_)
  have hdl := decode_len z
  refine rdx (rd_move (v := .tuple _) rfl) ?_
  refine rdx (rd_extract (v := .agg _) (vs := _) rfl rfl) ?_
  refine rdx (rd_extract (v := .slice _ _ _) (vs := _) rfl rfl) ?_
  refine rdx (rd_extract (v := .int _ _) (vs := _) rfl rfl) ?_
  refine TO.alloc Tryz.zero30 (fun b30 => ?_)
  refine TO.store0 (cells' := #[.int _ _, .int _ _, .int _ _, .int _ _, .int _ _, .int _ _, .int _ _, .int _ _, .string _]) Tryz.size30 rfl (v := .agg #[.int _ _, .int _ _, .int _ _, .int _ _, .int _ _, .int _ _, .int _ _, .int _ _, .string _]) rfl rfl rfl (Nat.le_of_ble_eq_true rfl) rfl ?_
  refine rdx (rd_assign (v := .slice _ _ _) rfl) ?_
  refine rdx (rd_assign (v := .int _ _) rfl) ?_
  refine TO.nil (TQ.then_normal (T.seq (T.region ?_)))
  refine rdx (rd_load_agg (cs := #[.int _ _, .int _ _, .int _ _, .int _ _, .int _ _, .int _ _, .int _ _, .int _ _, .string _]) Tryz.agg30 rfl (Has.own 2 rfl) rfl rfl) ?_
  refine rdx (rd_load_agg (cs := #[.int _ _, .int _ _, .int _ _, .int _ _, .int _ _, .int _ _, .int _ _, .int _ _, .string _]) Tryz.agg30 rfl (Has.own 0 rfl) rfl rfl) ?_
  refine rdx (rd_b (b := false) (rd_new Tryz.eqty (p := _) (q := _) rfl rfl) (by simp)) ?_
  refine rdx (rd_move (v := .bool _) rfl) ?_
  refine TO.guard_true (s := 164) rfl rfl ?_
  refine rdx (rd_move (v := .slice _ _ _) rfl) ?_
  refine TO.guard_true (s := 164) rfl rfl ?_
  refine rdx (rd_move (v := .slice _ _ _) rfl) ?_
  refine TO.guard_true (s := 164) rfl rfl ?_
  refine TO.fn Tryz.enters28 (cv_b (c_ref15_SameProxies _ _ _ (decodeOf z).2.1 (by first | rfl | simp | omega) _ _ _ (decodeOf z).2.1 (by first | rfl | simp | omega) (by first | omega | assumption | simp)) (decide_eq_true rfl)) rfl (ReadsC (row_slc' (e := proxyL) (xs := (decodeOf z).2.1) (fun _ => rfl) (rfl) (rfl) (Has.own 3 rfl)) (ReadsC (row_slc' (e := proxyL) (xs := (decodeOf z).2.1) (fun _ => rfl) (rfl) (rfl) (Has.own 1 rfl)) Reads0)) ?_
  refine TO.guard_true (s := 164) rfl rfl ?_
  refine rdx (rd_not rfl) ?_
  refine rdx (rd_pick_false (v := .bool _) rfl rfl) ?_
  refine rdx (rd_move (v := .bool _) rfl) ?_
  refine TO.guard_true (s := 170) rfl rfl ?_
  refine rdx (rd_move (v := .int _ _) rfl) ?_
  refine TO.guard_true (s := 170) rfl rfl ?_
  refine rdx (rd_move (v := .int _ _) rfl) ?_
  refine TO.guard_true (s := 170) rfl rfl ?_
  refine rdx (rd_b (b := false) (rd_neq rfl rfl) (by simp)) ?_
  refine rdx (rd_pick_false (v := .bool _) rfl rfl) ?_
  refine TO.nil (TQ.then_normal ?_)
  refine T.cond_false rfl ?_
  refine T.skip (TQ.block_normal (TQ.then_normal (T.region ?_)))
  refine rdx (rd_move (v := .int _ _) rfl) ?_
  refine rdx (rd_add rfl rfl (w64 (by first | omega | (simp only [List.length_cons, List.length_nil]; omega)) (by first | omega | (simp only [List.length_cons, List.length_nil]; omega)))) ?_
  refine rdx (rd_assign (v := .int _ _) rfl) ?_
  refine TO.nil ?_
  refine TQ.againk (q + 1) ?_ ?_ (And.intro (rfl) (trivial)) (And.intro (rfl) (And.intro (rfl) (And.intro (rfl) (And.intro (rfl) (And.intro (rfl) (And.intro (rfl) (And.intro (rfl) (trivial)))))))) (fun _ _ h => h.sel (js := [4, 5, 6, 7, 8, 9, 10]) (by decide))
  ·first | omega | (dsimp only; omega)
  ·first | omega | (dsimp only; omega)
 try simp only [nrm] at h20
 refine T.exit (TQ.then_exit (TQ.then_exit (TQ.block_out (TQ.then_normal (T.seq (T.region ?_))))))
 refine rdx (rd_move (v := .string _) rfl) ?_
 refine rdx (rd_move (v := .string _) rfl) ?_
 refine rdx (rd_lens' Tryz.under9 rfl) ?_
 refine rdx (rd_min2 (s := ((min kx.length 33 : Nat) : Int)) rfl rfl (by split <;> omega)) ?_
 refine rdx (rd_sub_str (i := 0) (j := min kx.length 33) Tryz.under9 rfl (.inl ⟨rfl, rfl⟩) (.inr ⟨_, rfl⟩) (by omega) (by omega) rfl) ?_
 refine rdx (rd_assign (v := .string _) rfl) ?_
 refine TO.nil (TQ.then_normal (T.seq (T.region ?_)))
 refine rdx (rd_move (v := .string _) rfl) ?_
 refine rdx (rd_move (v := .string _) rfl) ?_
 refine rdx (rd_lens' Tryz.under9 rfl) ?_
 refine rdx (rd_min2 (s := ((min cd.length 17 : Nat) : Int)) rfl rfl (by split <;> omega)) ?_
 refine rdx (rd_sub_str (i := 0) (j := min cd.length 17) Tryz.under9 rfl (.inl ⟨rfl, rfl⟩) (.inr ⟨_, rfl⟩) (by omega) (by omega) rfl) ?_
 refine rdx (rd_assign (v := .string _) rfl) ?_
 refine TO.nil (TQ.then_normal (T.seq (T.seq (T.region ?_))))
 refine rdx (rd_move (v := .string _) rfl) ?_
 refine rdx (rd_move (v := .int _ _) rfl) ?_
 refine TO.fn Tryz.enters19 (c_ref15_Key _) rfl Reads0 ?_
 refine TO.buildS (cs := [.string _, .string _]) Tryz.under32 Tryz.size9 Tryz.zero9 (Nat.le_of_ble_eq_true rfl) rfl (fun b31 => ?_)
 refine rdx (rd_lensl Tryz.under32 rfl) ?_
 refine rdx (rd_move (v := .int _ _) rfl) ?_
 refine TO.nil (TQ.then_normal (T.block ?_))
 refine T.loop1 [7, 8, 9, 21, 188, 189] (fun (i : Nat) => [(190, .int .i64 (i : Nat))]) (fun (i : Nat) => []) (fun (i : Nat) => i ≤ 2) (fun (i : Nat) => 2 - i) (0) (Nat.zero_le _) (And.intro (rfl) (trivial)) (fun _ _ h => h) fun i g2 hx2 => ?_
 refine T.seq (T.region ?_)
 refine rdx (rd_lss rfl rfl) ?_
 refine TO.nil (TQ.then_normal (T.seq ?_))
 refine T.cond_ft rfl (fun h32 => ?_) (fun h32 => ?_)
 ·try simp only [nrm] at h32
  refine T.exit (TQ.then_exit (TQ.then_exit (TQ.block_out (TQ.then_normal (T.seq (T.region ?_))))))
  refine rdx (rd_move (v := .bool _) rfl) ?_
  refine rdx (rd_assign (v := .bool _) rfl) ?_
  refine TO.nil (TQ.then_normal (T.ret ?_))
  refine TQ.value ?_ (res1 Tryz.results4 (Res.tmp (v := .bool _) rfl)) _ (.inl rfl)
  rfl
 try simp only [nrm] at h32
 refine T.skip (TQ.then_normal (T.seq (T.block (T.seq (T.region ?_)))))
 refine rdx (rd_ix (k := i) Tryz.under32 Tryz.size9 rfl rfl (own_slc (e := eStr) [((kx.take (min kx.length 33)).drop 0), keyB at_] rfl (fun _ => rfl) (Has.own 0 rfl) (by simp)) rfl (by first | omega | (simp only [List.length_cons, List.length_nil]; omega)) (by first | omega | (simp only [List.length_cons, List.length_nil]; omega))) ?_
 refine rdx (rd_el (v := .string _) i 0 Tryz.one9 rfl (own_slc (e := eStr) [((kx.take (min kx.length 33)).drop 0), keyB at_] rfl (fun _ => rfl) (Has.own 0 rfl) (by simp)) rfl (by first | omega | (simp only [List.length_cons, List.length_nil]; omega)) (Nat.le_of_ble_eq_true rfl) rfl) ?_
 obtain ⟨key, hkey⟩ : ∃ key, [((kx.take (min kx.length 33)).drop 0), keyB at_][i]'(by simp only [List.length_cons, List.length_nil]; omega) = key := ⟨_, rfl⟩
 rw [hkey]
 have hkb : key.length ≤ 33 := by
  have hm2 : key ∈ [((kx.take (min kx.length 33)).drop 0), keyB at_] := hkey ▸ List.getElem_mem _
  simp only [List.mem_cons, List.not_mem_nil, or_false] at hm2
  rcases hm2 with rfl | rfl
  ·simp only [List.length_drop, List.length_take]; omega
  ·rw [keyB_len]; omega
 refine rdx (rd_assign (v := .string _) rfl) ?_
 refine TO.nil (TQ.then_normal (T.seq (T.region ?_)))
 refine rdx (rd_move (v := .int _ _) rfl) ?_
 refine rdx (rd_move (v := .int _ _) rfl) ?_
 refine rdx (rd_builda (cs := [.int _ _, .int _ _]) Tryz.under22 Tryz.size3 Tryz.zero22 rfl rfl) ?_
 refine rdx (rd_move (v := .int _ _) rfl) ?_
 refine TO.fn Tryz.enters9 (c_law15_pick _ _ (by omega) (by omega) (by omega) (by omega)) rfl Reads0 ?_
 refine rdx (rd_move (v := .int _ _) rfl) ?_
 refine TO.fn Tryz.enters9 (c_law15_pick _ _ (by omega) (by omega) (by omega) (by omega)) rfl Reads0 ?_
 refine rdx (rd_builda (cs := [.int _ _, .int _ _]) Tryz.under22 Tryz.size3 Tryz.zero22 rfl rfl) ?_
 refine TO.buildS (cs := [.int _ _, .int _ _, .int _ _, .int _ _]) Tryz.under48 Tryz.size22 Tryz.zero22 (Nat.le_of_ble_eq_true rfl) rfl (fun b33 => ?_)
 refine rdx (rd_lensl Tryz.under48 rfl) ?_
 refine rdx (rd_move (v := .int _ _) rfl) ?_
 refine TO.nil (TQ.then_normal (T.block ?_))
 refine T.loop1 [7, 8, 9, 21, 43, 188, 189, 190, 202, 203] (fun (r : Nat) => [(204, .int .i64 (r : Nat))]) (fun (r : Nat) => []) (fun (r : Nat) => r ≤ 2) (fun (r : Nat) => 2 - r) (0) (Nat.zero_le _) (And.intro (rfl) (trivial)) (fun _ _ h => h) fun r g3 hx3 => ?_
 refine T.seq (T.region ?_)
 refine rdx (rd_lss rfl rfl) ?_
 refine TO.nil (TQ.then_normal (T.seq ?_))
 refine T.cond_ft rfl (fun h34 => ?_) (fun h34 => ?_)
 ·try simp only [nrm] at h34
  refine T.exit (TQ.then_exit (TQ.then_exit (TQ.block_out (TQ.block_normal (TQ.then_normal (T.region ?_))))))
  refine rdx (rd_add rfl rfl (w64 (by first | omega | (simp only [List.length_cons, List.length_nil]; omega)) (by first | omega | (simp only [List.length_cons, List.length_nil]; omega)))) ?_
  refine rdx (rd_move (v := .int _ _) rfl) ?_
  refine TO.nil ?_
  refine TQ.againk (i + 1) ?_ ?_ (And.intro (rfl) (trivial)) (And.intro (rfl) (And.intro (rfl) (And.intro (rfl) (And.intro (rfl) (And.intro (rfl) (And.intro (rfl) (trivial))))))) (fun _ _ h => h.sel (js := [1, 2, 3, 4, 5, 6, 7, 8]) (by decide))
  ·first | omega | (dsimp only; omega)
  ·first | omega | (dsimp only; omega)
 try simp only [nrm] at h34
 refine T.skip (TQ.then_normal (T.seq (T.block (T.seq (T.region ?_)))))
 refine rdx (rd_ix (k := r) Tryz.under48 Tryz.size22 rfl rfl (own_slc (e := pairL) (sz := 2) [(nu, ep), (pickN nu 100000000, pickN ep 1000001)] rfl (fun _ => rfl) (Has.own 0 rfl) (by simp)) rfl (by first | omega | (simp only [List.length_cons, List.length_nil]; omega)) (by first | omega | (simp only [List.length_cons, List.length_nil]; omega))) ?_
 refine rdx (rd_ela (cs := [.int _ _, .int _ _]) r 0 Tryz.agg22 rfl (own_slc (e := pairL) (sz := 2) [(nu, ep), (pickN nu 100000000, pickN ep 1000001)] rfl (fun _ => rfl) (Has.own 0 rfl) (by simp)) rfl (by first | omega | (simp only [List.length_cons, List.length_nil]; omega)) (Nat.le_of_ble_eq_true rfl) rfl rfl rfl) ?_
 have hr2 : r < [(nu, ep), (pickN nu 100000000, pickN ep 1000001)].length := by simp only [List.length_cons, List.length_nil]; omega
 refine TO.alloc Tryz.zero22 (fun b35 => ?_)
 refine TO.store0 (cells' := #[.int _ _, .int _ _]) Tryz.size22 rfl (v := .agg #[.int _ _, .int _ _]) rfl rfl rfl (Nat.le_of_ble_eq_true rfl) rfl ?_
 refine TO.nil (TQ.then_normal (T.seq (T.region ?_)))
 refine rdx (rd_move (v := .string _) rfl) ?_
 refine rdx (rd_ixa 0 Tryz.under22 Tryz.size3 rfl rfl rfl (by decide)) ?_
 refine rdx (rd_load (v := .int _ _) Tryz.one3 rfl (Has.own 0 rfl) rfl) ?_
 refine rdx (rd_ixa 1 Tryz.under22 Tryz.size3 rfl rfl rfl (by decide)) ?_
 refine rdx (rd_load (v := .int _ _) Tryz.one3 rfl (Has.own 0 rfl) rfl) ?_
 refine TO.fn Tryz.enters29 (c_wish_Account (key) (([(nu, ep), (pickN nu 100000000, pickN ep 1000001)][r]'hr2).1) (([(nu, ep), (pickN nu 100000000, pickN ep 1000001)][r]'hr2).2) (by first | (rw [keyB_len]; omega) | omega | assumption)) rfl (ReadsC (Has.arg 0 rfl) Reads0) ?_
 refine rdx (rd_move (v := .tuple _) rfl) ?_
 refine rdx (rd_extract (v := .string _) (vs := _) rfl rfl) ?_
 refine rdx (rd_extract (v := .int _ _) (vs := _) rfl rfl) ?_
 refine rdx (rd_assign (v := .string _) rfl) ?_
 refine rdx (rd_assign (v := .int _ _) rfl) ?_
 refine TO.nil (TQ.then_normal (T.seq (T.region ?_)))
 refine rdx (rd_move (v := .string _) rfl) ?_
 refine rdx (rd_ixa 0 Tryz.under22 Tryz.size3 rfl rfl rfl (by decide)) ?_
 refine rdx (rd_load (v := .int _ _) Tryz.one3 rfl (Has.own 0 rfl) rfl) ?_
 refine rdx (rd_ixa 1 Tryz.under22 Tryz.size3 rfl rfl rfl (by decide)) ?_
 refine rdx (rd_load (v := .int _ _) Tryz.one3 rfl (Has.own 0 rfl) rfl) ?_
 refine TO.fn Tryz.enters30 (c_ref15_Account (key) (([(nu, ep), (pickN nu 100000000, pickN ep 1000001)][r]'hr2).1) (([(nu, ep), (pickN nu 100000000, pickN ep 1000001)][r]'hr2).2) (by first | omega | exact wishText_le _ | exact proxyText_le _ | exact puts3_le _ _ _ | (simp only [List.length_append, List.length_cons, List.length_nil, sha_len, leafOf_len, nodeOf_len, sealOf_len, List.length_take, List.length_drop]; omega) | (rw [keyB_len]; omega))) rfl Reads0 ?_
 refine rdx (rd_move (v := .tuple _) rfl) ?_
 refine rdx (rd_extract (v := .string _) (vs := _) rfl rfl) ?_
 refine rdx (rd_extract (v := .int _ _) (vs := _) rfl rfl) ?_
 refine rdx (rd_assign (v := .string _) rfl) ?_
 refine rdx (rd_assign (v := .int _ _) rfl) ?_
 refine TO.nil (TQ.then_normal (T.seq ?_))
 refine T.drawq Tryz.mixes 39 [(226, 0), (227, 1), (228, 2), (229, 3), (230, 4), (231, 5), (232, 6), (233, 7), (234, 8), (235, 9), (236, 10), (237, 11), (238, 12), (239, 13), (240, 14), (241, 15), (242, 16), (243, 17), (244, 18), (245, 19), (246, 20), (247, 21), (248, 22), (249, 23), (250, 24), (251, 25), (252, 26), (253, 27), (254, 28), (255, 29), (256, 30), (257, 31), (258, 32), (259, 33), (260, 34), (261, 35), (262, 36), (263, 37), (264, 38)] [0, 0, 3, 7, 15, 15, 63, 127, 255, 511, 511, 1535, 511, 4607, 511, 32767, 511, 511, 131583, 511, 524799, 511, 4194303, 8388607, 16777215, 33554431, 67108863, 67108863, 201326591, 67108863, 603979775, 67108863, 4294967295, 67108863, 67108863, 17246978047, 67108863, 68786585599, 67108863, 549755813887, 1099511627775, 2199023255551] (by kernel_rfl) ?_
 refine DQ.rd rfl rfl (fun _ => rd_move (v := .string _) rfl) ?_
 refine DQ.rd rfl rfl (fun _ => rd_move (v := .string _) rfl) ?_
 refine DQ.rd rfl rfl (fun _ => rd_b (b := false) (rd_nes' rfl rfl) (by simp)) ?_
 refine DQ.rd rfl rfl (fun _ => rd_move (v := .bool _) rfl) ?_
 refine DQ.rdg rfl rfl (fun _ => rfl) (fun _ => rd_move (v := .int _ _) rfl) ?_
 refine DQ.rdg rfl rfl (fun _ => rfl) (fun _ => rd_move (v := .int _ _) rfl) ?_
 refine DQ.rdg rfl rfl (fun _ => rfl) (fun _ => rd_b (b := false) (rd_neq rfl rfl) (by simp)) ?_
 refine DQ.rd rfl rfl (fun _ => rd_pick_false (v := .bool _) rfl rfl) ?_
 refine DQ.rd rfl rfl (fun _ => rd_move (v := .bool _) rfl) ?_
 refine DQ.rdg rfl rfl (fun _ => rfl) (fun _ => rd_move (v := .string _) rfl) ?_
 refine DQ.rdg rfl rfl (fun _ => rfl) (fun _ => rd_ixa 0 Tryz.under22 Tryz.size3 rfl rfl rfl (by decide)) ?_
 refine DQ.rdg rfl rfl (fun _ => rfl) (fun _ => rd_load (v := .int _ _) Tryz.one3 rfl (Has.own 0 rfl) rfl) ?_
 refine DQ.rdg rfl rfl (fun _ => rfl) (fun _ => rd_ixa 1 Tryz.under22 Tryz.size3 rfl rfl rfl (by decide)) ?_
 refine DQ.rdg rfl rfl (fun _ => rfl) (fun _ => rd_load (v := .int _ _) Tryz.one3 rfl (Has.own 0 rfl) rfl) ?_
 refine DQ.rdg rfl rfl (fun _ => rfl) (fun _ => rd_move (v := .string _) rfl) ?_
 refine DQ.fng rfl rfl (fun _ => rfl) Tryz.enters31 (c_wish_Checks (key) (([(nu, ep), (pickN nu 100000000, pickN ep 1000001)][r]'hr2).1) (([(nu, ep), (pickN nu 100000000, pickN ep 1000001)][r]'hr2).2) (((cd.take (min cd.length 17)).drop 0)) (by first | (rw [keyB_len]; omega) | omega | assumption)) (fun _ => rfl) (ReadsC (Has.arg 0 rfl) Reads0) ?_
 refine DQ.rdg rfl rfl (fun _ => rfl) (fun _ => rd_move (v := .string _) rfl) ?_
 refine DQ.rdg rfl rfl (fun _ => rfl) (fun _ => rd_ixa 0 Tryz.under22 Tryz.size3 rfl rfl rfl (by decide)) ?_
 refine DQ.rdg rfl rfl (fun _ => rfl) (fun _ => rd_load (v := .int _ _) Tryz.one3 rfl (Has.own 0 rfl) rfl) ?_
 refine DQ.rdg rfl rfl (fun _ => rfl) (fun _ => rd_ixa 1 Tryz.under22 Tryz.size3 rfl rfl rfl (by decide)) ?_
 refine DQ.rdg rfl rfl (fun _ => rfl) (fun _ => rd_load (v := .int _ _) Tryz.one3 rfl (Has.own 0 rfl) rfl) ?_
 refine DQ.rdg rfl rfl (fun _ => rfl) (fun _ => rd_move (v := .string _) rfl) ?_
 refine DQ.fng rfl rfl (fun _ => rfl) Tryz.enters32 (c_ref15_Checks (key) (([(nu, ep), (pickN nu 100000000, pickN ep 1000001)][r]'hr2).1) (([(nu, ep), (pickN nu 100000000, pickN ep 1000001)][r]'hr2).2) (((cd.take (min cd.length 17)).drop 0)) (by first | omega | exact wishText_le _ | exact proxyText_le _ | exact puts3_le _ _ _ | (simp only [List.length_append, List.length_cons, List.length_nil, sha_len, leafOf_len, nodeOf_len, sealOf_len, List.length_take, List.length_drop]; omega) | (rw [keyB_len]; omega))) (fun _ => rfl) Reads0 ?_
 refine DQ.rdg rfl rfl (fun _ => rfl) (fun _ => rd_b (b := false) (rd_neb Tryz.under4 rfl rfl) (by simp)) ?_
 refine DQ.rd rfl rfl (fun _ => rd_pick_false (v := .bool _) rfl rfl) ?_
 refine DQ.rd rfl rfl (fun _ => rd_move (v := .bool _) rfl) ?_
 refine DQ.rdg rfl rfl (fun _ => rfl) (fun _ => rd_move (v := .string _) rfl) ?_
 refine DQ.rdg rfl rfl (fun _ => rfl) (fun _ => rd_ixa 0 Tryz.under22 Tryz.size3 rfl rfl rfl (by decide)) ?_
 refine DQ.rdg rfl rfl (fun _ => rfl) (fun _ => rd_load (v := .int _ _) Tryz.one3 rfl (Has.own 0 rfl) rfl) ?_
 refine DQ.rdg rfl rfl (fun _ => rfl) (fun _ => rd_ixa 1 Tryz.under22 Tryz.size3 rfl rfl rfl (by decide)) ?_
 refine DQ.rdg rfl rfl (fun _ => rfl) (fun _ => rd_load (v := .int _ _) Tryz.one3 rfl (Has.own 0 rfl) rfl) ?_
 refine DQ.rdg rfl rfl (fun _ => rfl) (fun _ => rd_move (v := .string _) rfl) ?_
 refine DQ.fng rfl rfl (fun _ => rfl) Tryz.enters31 (c_wish_Checks (key) (([(nu, ep), (pickN nu 100000000, pickN ep 1000001)][r]'hr2).1) (([(nu, ep), (pickN nu 100000000, pickN ep 1000001)][r]'hr2).2) ((account key ([(nu, ep), (pickN nu 100000000, pickN ep 1000001)][r]'hr2).1 ([(nu, ep), (pickN nu 100000000, pickN ep 1000001)][r]'hr2).2).1) (by first | (rw [keyB_len]; omega) | omega | assumption)) (fun _ => rfl) (ReadsC (Has.arg 0 rfl) Reads0) ?_
 refine DQ.rdg rfl rfl (fun _ => rfl) (fun _ => rd_move (v := .string _) rfl) ?_
 refine DQ.rdg rfl rfl (fun _ => rfl) (fun _ => rd_ixa 0 Tryz.under22 Tryz.size3 rfl rfl rfl (by decide)) ?_
 refine DQ.rdg rfl rfl (fun _ => rfl) (fun _ => rd_load (v := .int _ _) Tryz.one3 rfl (Has.own 0 rfl) rfl) ?_
 refine DQ.rdg rfl rfl (fun _ => rfl) (fun _ => rd_ixa 1 Tryz.under22 Tryz.size3 rfl rfl rfl (by decide)) ?_
 refine DQ.rdg rfl rfl (fun _ => rfl) (fun _ => rd_load (v := .int _ _) Tryz.one3 rfl (Has.own 0 rfl) rfl) ?_
 refine DQ.rdg rfl rfl (fun _ => rfl) (fun _ => rd_move (v := .string _) rfl) ?_
 refine DQ.done rfl ?_
 refine TO.guard_true (s := 251) rfl rfl ?_
 refine TO.fn Tryz.enters32 (c_ref15_Checks (key) (([(nu, ep), (pickN nu 100000000, pickN ep 1000001)][r]'hr2).1) (([(nu, ep), (pickN nu 100000000, pickN ep 1000001)][r]'hr2).2) ((account key ([(nu, ep), (pickN nu 100000000, pickN ep 1000001)][r]'hr2).1 ([(nu, ep), (pickN nu 100000000, pickN ep 1000001)][r]'hr2).2).1) (by first | omega | exact wishText_le _ | exact proxyText_le _ | exact puts3_le _ _ _ | (simp only [List.length_append, List.length_cons, List.length_nil, sha_len, leafOf_len, nodeOf_len, sealOf_len, List.length_take, List.length_drop]; omega) | (rw [keyB_len]; omega))) rfl Reads0 ?_
 refine TO.guard_true (s := 251) rfl rfl ?_
 refine rdx (rd_b (b := false) (rd_neb Tryz.under4 rfl rfl) (by simp)) ?_
 refine rdx (rd_pick_false (v := .bool _) rfl rfl) ?_
 refine TO.nil (TQ.then_normal ?_)
 refine T.cond_false rfl ?_
 refine T.skip (TQ.block_normal (TQ.then_normal (T.region ?_)))
 refine rdx (rd_add rfl rfl (w64 (by first | omega | (simp only [List.length_cons, List.length_nil]; omega)) (by first | omega | (simp only [List.length_cons, List.length_nil]; omega)))) ?_
 refine rdx (rd_move (v := .int _ _) rfl) ?_
 refine TO.nil ?_
 refine TQ.againk (r + 1) ?_ ?_ (And.intro (rfl) (trivial)) (And.intro (rfl) (And.intro (rfl) (And.intro (rfl) (And.intro (rfl) (And.intro (rfl) (And.intro (rfl) (And.intro (rfl) (And.intro (rfl) (And.intro (rfl) (And.intro (rfl) (trivial))))))))))) (fun _ _ h => h.sel (js := [1, 2, 3, 4, 5, 6, 7, 8, 9]) (by decide))
 ·first | omega | (dsimp only; omega)
 ·first | omega | (dsimp only; omega)
end Go.Proofs
end
section
/- WishTextsMatchReference: for every input the law returns true and the arguments read as they did (the tied card of the statement). Conditions: none beyond the card's own. -/
set_option linter.unusedVariables false
set_option linter.unusedSimpArgs false
set_option maxRecDepth 100000
namespace Go.Proofs.YtlcbpicpociipaaGreatDoor
open Go Go.TL Go.ChangeShapes Go.WideShapes Go.RowKit
theorem wishTextsMatchReference_lifted (os : Os) (started : os.Started) (H : Type) (enc : TypeId × Value → H) : ReturnsInHanded {} Tryz.checked os 4 .any (fun w args => (Rows.wishTextsMatchReferenceSpec.pre enc Tryz.prog Tryz.f4 [] false w args ∧ laidMetH Tryz.prog laidC w) ∧ sizedMet enc Tryz.prog Tryz.f4 (OpenSpec.ofChange Rows.wishTextsMatchReferenceSpec) false w args) (Rows.wishTextsMatchReferenceSpec.post enc Tryz.prog Tryz.f4 false true false false) := by
  refine returns_law (C := Tryz.checked) (k := 10) Tryz.own started (by kernel_rfl) Tryz.func4 Tryz.laidOut
    (ChangeSpec.witness_at (enc := enc) (C := Tryz.checked) (os := os) (X := fun w _ => laidMetH Tryz.prog laidC w) false (World.laidAll Tryz.prog os laidC) #[.agg #[.int .i64 0, .int .i64 0, .int .i64 0, .int .i64 0, .int .i64 0, .int .i64 0, .int .i64 0, .slice none 0 0], .int .i64 0, .int .i64 0, .int .i64 0, .int .u8 0, .string ⟨#[]⟩, .string ⟨#[]⟩, .int .i64 0, .int .i64 0, .string ⟨#[]⟩] 8 (World.laidAll_os _ _ _) (by kernel_rfl) (by kernel_rfl) (by kernel_rfl) (by kernel_rfl) (by kernel_rfl) (by rw [MakeChecks.laidMetH_plain _ _ _ (by kernel_rfl)]; exact laidMet_laidAll _ (by kernel_rfl) (by kernel_rfl)))
    rfl Tryz.tyB (by kernel_rfl) rfl (by kernel_rfl) (fun ds h => ?_) ?_
  · match ds, h with
    | [d0, d1, d2, d3, d4, d5, d6, d7, d8, d9], _ => rfl
  · intro W base args ds p hval hA hL hsh
    have hp : Tryz.f4.params = #[25, 3, 3, 3, 5, 9, 9, 3, 3, 9] := Tryz.params4
    rw [hp] at hval hA
    obtain ⟨hlen, hget⟩ := args_of (params := [25, 3, 3, 3, 5, 9, 9, 3, 3, 9]) (fun j t v h1 h2 => hval j t v (by simpa using h1) h2) hA
    obtain ⟨v0, v1, v2, v3, v4, v5, v6, v7, v8, v9, hargs⟩ : ∃ v0 v1 v2 v3 v4 v5 v6 v7 v8 v9, args.toList = [v0, v1, v2, v3, v4, v5, v6, v7, v8, v9] := by
      match args.toList, hlen with
      | [v0, v1, v2, v3, v4, v5, v6, v7, v8, v9], _ => exact ⟨v0, v1, v2, v3, v4, v5, v6, v7, v8, v9, rfl⟩
    rw [hargs] at hget
    obtain rfl : args = #[v0, v1, v2, v3, v4, v5, v6, v7, v8, v9] := by rw [show args = args.toList.toArray from rfl, hargs]
    obtain ⟨u0, A0, m0, p0, rfl, hm0, hx0, hc0, hs0⟩ := Arg.nums Tryz.numTy (hget 0 25 v0 rfl rfl)
    obtain ⟨n1, rfl, h1⟩ := Arg.i64 Tryz.tyI (hget 1 3 v1 rfl rfl)
    obtain ⟨n2, rfl, h2⟩ := Arg.i64 Tryz.tyI (hget 2 3 v2 rfl rfl)
    obtain ⟨n3, rfl, h3⟩ := Arg.i64 Tryz.tyI (hget 3 3 v3 rfl rfl)
    obtain ⟨c4, rfl⟩ := Arg.u8 Tryz.ty8 (hget 4 5 v4 rfl rfl)
    obtain ⟨s5, rfl, l5⟩ := Arg.str Tryz.tyS (hget 5 9 v5 rfl rfl)
    obtain ⟨s6, rfl, l6⟩ := Arg.str Tryz.tyS (hget 6 9 v6 rfl rfl)
    obtain ⟨n7, rfl, h7⟩ := Arg.i64 Tryz.tyI (hget 7 3 v7 rfl rfl)
    obtain ⟨n8, rfl, h8⟩ := Arg.i64 Tryz.tyI (hget 8 3 v8 rfl rfl)
    obtain ⟨s9, rfl, l9⟩ := Arg.str Tryz.tyS (hget 9 9 v9 rfl rfl)
    refine ⟨_, c_law15_WishTextsMatchReference u0 A0 m0 p0 hm0 hx0 hc0 n1 n2 n3 c4 s5 s6 n7 n8 s9 h1.1 h1.2 h3.1 h3.2 h7.1 h7.2 h8.1 h8.2 l5 l6 l9, fun X hX => ?_⟩
    simp only [List.mem_cons, List.not_mem_nil, or_false] at hX
    rcases hX with rfl | rfl
    · exact glob_round hL hsh
    · exact hs0
theorem wishTextsMatchReference_row : Rows.WishTextsMatchReferenceSaid :=
  OpenClaim.holds_of_wide 4 Tryz.f4 rfl rfl rfl rfl rfl rfl rfl ⟨rfl, rfl, rfl, rfl, rfl⟩ rfl rfl rfl rfl rfl (by kernel_rfl) Tryz.func4 (by kernel_rfl)
    (of_decide_eq_true (by kernel_rfl)) (by unfold Func.isWrapper; rw [if_neg (of_decide_eq_false (by kernel_rfl))]; exact ⟨rfl, rfl⟩)
    (fun os started H enc _ => wishTextsMatchReference_lifted os started H enc)
theorem wishTextsMatchReference_card : Rows.WishTextsMatchReferenceCardSaid :=
  Claim7.holds_tied_plain_at .later [] [.data] true (true, "5809412755c21f3e7c702fd83a83e5f0c203524499dd97c179ad62809b0b19aa") true wishTextsMatchReference_row (fun _ h => by cases h) (by kernel_rfl) (fun _ h => by cases h) wishTextsMatchReference_row_tie rfl ⟨rfl, rfl⟩ (by kernel_rfl) rfl
    (fun f fn hf hfn => by
      obtain rfl : f = 4 := Option.some.inj ((show Tryz.prog.funcNamed "dialtone/dialtonelaw15.WishTextsMatchReference" = some 4 by kernel_rfl).symm.trans hf) |>.symm
      obtain rfl : fn = Tryz.f4 := (Option.some.inj (Tryz.func4.symm.trans hfn)).symm
      exact ⟨by kernel_rfl, fun j t ht => by
        rw [Tryz.params4] at ht
        have hm : t ∈ [25, 3, 3, 3, 5, 9, 9, 3, 3, 9] := by simpa using Array.mem_of_getElem? ht
        have hall : ([25, 3, 3, 3, 5, 9, 9, 3, 3, 9].all fun u => !Tryz.prog.wantsStandIn u) = true := by kernel_rfl
        exact (show Tryz.prog.wantsStandIn t = false by simpa using List.all_eq_true.1 hall t hm)⟩)
    (by kernel_rfl)
#print axioms wishTextsMatchReference_card
end Go.Proofs.YtlcbpicpociipaaGreatDoor
end
