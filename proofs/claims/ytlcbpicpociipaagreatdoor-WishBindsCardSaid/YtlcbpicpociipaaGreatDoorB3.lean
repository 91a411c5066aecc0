/- What the proof of WishBinds leans on, part 3: a small program logic, plain facts, walks of functions. No statement of the seat is proved here. -/
import Derived.Test.YtlcbpicpociipaaGreatDoorB2
import Derived.Test.YtlcbpicpociipaaGreatDoorProg
section
set_option linter.unusedVariables false
set_option linter.unusedSimpArgs false
set_option maxRecDepth 100000
set_option maxHeartbeats 800000
namespace Go.Proofs
open Go.TL
attribute [local irreducible] Go.TL.T Go.TL.TO Go.TL.TQ
theorem c_wish_isRange (lo hi : Int) : Cv Tryz.prog 81 #[.agg #[.int .i64 lo, .int .i64 hi]] [] (.bool (rangeOk lo hi)) := by
 refine Ctr.intro Tryz.func81 rfl Tryz.ntmps81 (Nat.le_of_ble_eq_true rfl) fun S0 w0 => ?_
 refine T.seq (T.region ?_)
 refine TO.box (v := .agg #[.int _ _, .int _ _]) rfl (fun b1 => ?_)
 refine rdx (rd_assign (v := .bool _) rfl) ?_
 refine TO.nil (TQ.then_normal (T.seq (T.region ?_)))
 refine rdx (rd_fieldAddr Tryz.field27_0 rfl) ?_
 refine rdx (rd_load (v := .int _ _) Tryz.one3 rfl (Has.own 0 rfl) rfl) ?_
 refine rdx (rd_leq rfl rfl) ?_
 refine rdx (rd_move (v := .bool _) rfl) ?_
 refine TO.decide_ft (s := 6) rfl (fun h2 => ?_) (fun h2 => ?_)
 ·refine TO.guard_false (s := 6) (b' := false) rfl rfl nofun ?_
  refine TO.guard_false (s := 6) (b' := false) rfl rfl nofun ?_
  refine TO.guard_false (s := 6) (b' := false) rfl rfl nofun ?_
  refine TO.guard_false (s := 6) (b' := false) rfl rfl nofun ?_
  refine TO.guard_false (s := 6) (b' := false) rfl rfl nofun ?_
  refine rdx (rd_pick_false (v := .bool _) rfl rfl) ?_
  refine rdx (rd_move (v := .bool _) rfl) ?_
  refine TO.guard_false (s := 13) (b' := false) rfl rfl nofun ?_
  refine TO.guard_false (s := 13) (b' := false) rfl rfl nofun ?_
  refine TO.guard_false (s := 13) (b' := false) rfl rfl nofun ?_
  refine rdx (rd_pick_false (v := .bool _) rfl rfl) ?_
  refine rdx (rd_assign (v := .bool _) rfl) ?_
  refine TO.nil (TQ.then_normal (T.ret ?_))
  refine TQ.value ?_ (res1 Tryz.results81 (Res.tmp (v := .bool _) rfl)) _ (.inl rfl)
  show Value.bool _ = Value.bool _; simp [rangeOk, h2]
 refine TO.guard_true (s := 6) rfl rfl ?_
 refine rdx (rd_fieldAddr Tryz.field27_0 rfl) ?_
 refine TO.guard_true (s := 6) rfl rfl ?_
 refine rdx (rd_load (v := .int _ _) Tryz.one3 rfl (Has.own 0 rfl) rfl) ?_
 refine TO.guard_true (s := 6) rfl rfl ?_
 refine rdx (rd_fieldAddr Tryz.field27_1 rfl) ?_
 refine TO.guard_true (s := 6) rfl rfl ?_
 refine rdx (rd_load (v := .int _ _) Tryz.one3 rfl (Has.own 0 rfl) rfl) ?_
 refine TO.guard_true (s := 6) rfl rfl ?_
 refine rdx (rd_lss rfl rfl) ?_
 refine rdx (rd_pick_true (v := .bool _) rfl rfl) ?_
 refine rdx (rd_move (v := .bool _) rfl) ?_
 refine TO.decide_ft (s := 13) rfl (fun h3 => ?_) (fun h3 => ?_)
 ·refine TO.guard_false (s := 13) (b' := false) rfl rfl nofun ?_
  refine TO.guard_false (s := 13) (b' := false) rfl rfl nofun ?_
  refine TO.guard_false (s := 13) (b' := false) rfl rfl nofun ?_
  refine rdx (rd_pick_false (v := .bool _) rfl rfl) ?_
  refine rdx (rd_assign (v := .bool _) rfl) ?_
  refine TO.nil (TQ.then_normal (T.ret ?_))
  refine TQ.value ?_ (res1 Tryz.results81 (Res.tmp (v := .bool _) rfl)) _ (.inl rfl)
  show Value.bool _ = Value.bool _; simp [rangeOk, h2, h3]
 refine TO.guard_true (s := 13) rfl rfl ?_
 refine rdx (rd_fieldAddr Tryz.field27_1 rfl) ?_
 refine TO.guard_true (s := 13) rfl rfl ?_
 refine rdx (rd_load (v := .int _ _) Tryz.one3 rfl (Has.own 0 rfl) rfl) ?_
 refine TO.guard_true (s := 13) rfl rfl ?_
 refine rdx (rd_leq rfl rfl) ?_
 refine rdx (rd_pick_true (v := .bool _) rfl rfl) ?_
 refine rdx (rd_assign (v := .bool _) rfl) ?_
 refine TO.nil (TQ.then_normal (T.ret ?_))
 refine TQ.value ?_ (res1 Tryz.results81 (Res.tmp (v := .bool _) rfl)) _ (.inl rfl)
 show Value.bool _ = Value.bool _; simp [rangeOk, h2, h3]
theorem c_wish_isSpell (lo hi : Int) : Cv Tryz.prog 82 #[.agg #[.int .i64 lo, .int .i64 hi]] [] (.bool (spellOk lo hi)) := by
 refine Ctr.intro Tryz.func82 rfl Tryz.ntmps82 (Nat.le_of_ble_eq_true rfl) fun S0 w0 => ?_
 refine T.seq (T.region ?_)
 refine TO.box (v := .agg #[.int _ _, .int _ _]) rfl (fun b1 => ?_)
 refine rdx (rd_assign (v := .bool _) rfl) ?_
 refine TO.nil (TQ.then_normal (T.seq (T.region ?_)))
 refine rdx (rd_fieldAddr Tryz.field28_0 rfl) ?_
 refine rdx (rd_load (v := .int _ _) Tryz.one3 rfl (Has.own 0 rfl) rfl) ?_
 refine rdx (rd_leq rfl rfl) ?_
 refine rdx (rd_move (v := .bool _) rfl) ?_
 refine TO.decide_ft (s := 6) rfl (fun h2 => ?_) (fun h2 => ?_)
 ·refine TO.guard_false (s := 6) (b' := false) rfl rfl nofun ?_
  refine TO.guard_false (s := 6) (b' := false) rfl rfl nofun ?_
  refine TO.guard_false (s := 6) (b' := false) rfl rfl nofun ?_
  refine TO.guard_false (s := 6) (b' := false) rfl rfl nofun ?_
  refine TO.guard_false (s := 6) (b' := false) rfl rfl nofun ?_
  refine rdx (rd_pick_false (v := .bool _) rfl rfl) ?_
  refine rdx (rd_move (v := .bool _) rfl) ?_
  refine TO.guard_false (s := 13) (b' := false) rfl rfl nofun ?_
  refine TO.guard_false (s := 13) (b' := false) rfl rfl nofun ?_
  refine TO.guard_false (s := 13) (b' := false) rfl rfl nofun ?_
  refine rdx (rd_pick_false (v := .bool _) rfl rfl) ?_
  refine rdx (rd_assign (v := .bool _) rfl) ?_
  refine TO.nil (TQ.then_normal (T.ret ?_))
  refine TQ.value ?_ (res1 Tryz.results82 (Res.tmp (v := .bool _) rfl)) _ (.inl rfl)
  show Value.bool _ = Value.bool _; simp [spellOk, h2]
 refine TO.guard_true (s := 6) rfl rfl ?_
 refine rdx (rd_fieldAddr Tryz.field28_0 rfl) ?_
 refine TO.guard_true (s := 6) rfl rfl ?_
 refine rdx (rd_load (v := .int _ _) Tryz.one3 rfl (Has.own 0 rfl) rfl) ?_
 refine TO.guard_true (s := 6) rfl rfl ?_
 refine rdx (rd_fieldAddr Tryz.field28_1 rfl) ?_
 refine TO.guard_true (s := 6) rfl rfl ?_
 refine rdx (rd_load (v := .int _ _) Tryz.one3 rfl (Has.own 0 rfl) rfl) ?_
 refine TO.guard_true (s := 6) rfl rfl ?_
 refine rdx (rd_lss rfl rfl) ?_
 refine rdx (rd_pick_true (v := .bool _) rfl rfl) ?_
 refine rdx (rd_move (v := .bool _) rfl) ?_
 refine TO.decide_ft (s := 13) rfl (fun h3 => ?_) (fun h3 => ?_)
 ·refine TO.guard_false (s := 13) (b' := false) rfl rfl nofun ?_
  refine TO.guard_false (s := 13) (b' := false) rfl rfl nofun ?_
  refine TO.guard_false (s := 13) (b' := false) rfl rfl nofun ?_
  refine rdx (rd_pick_false (v := .bool _) rfl rfl) ?_
  refine rdx (rd_assign (v := .bool _) rfl) ?_
  refine TO.nil (TQ.then_normal (T.ret ?_))
  refine TQ.value ?_ (res1 Tryz.results82 (Res.tmp (v := .bool _) rfl)) _ (.inl rfl)
  show Value.bool _ = Value.bool _; simp [spellOk, h2, h3]
 refine TO.guard_true (s := 13) rfl rfl ?_
 refine rdx (rd_fieldAddr Tryz.field28_1 rfl) ?_
 refine TO.guard_true (s := 13) rfl rfl ?_
 refine rdx (rd_load (v := .int _ _) Tryz.one3 rfl (Has.own 0 rfl) rfl) ?_
 refine TO.guard_true (s := 13) rfl rfl ?_
 refine rdx (rd_leq rfl rfl) ?_
 refine rdx (rd_pick_true (v := .bool _) rfl rfl) ?_
 refine rdx (rd_assign (v := .bool _) rfl) ?_
 refine TO.nil (TQ.then_normal (T.ret ?_))
 refine TQ.value ?_ (res1 Tryz.results82 (Res.tmp (v := .bool _) rfl)) _ (.inl rfl)
 show Value.bool _ = Value.bool _; simp [spellOk, h2, h3]
theorem c_wish_isWithin (n low high : Int) : Cv Tryz.prog 47 #[.int .i64 n, .int .i64 low, .int .i64 high] [] (.bool (within n low high)) := by
 refine Ctr.intro Tryz.func47 rfl Tryz.ntmps47 (Nat.le_of_ble_eq_true rfl) fun S0 w0 => ?_
 refine T.seq (T.region ?_)
 refine rdx (rd_assign (v := .bool _) rfl) ?_
 refine TO.nil (TQ.then_normal (T.seq (T.region ?_)))
 refine rdx (rd_move (v := .int _ _) rfl) ?_
 refine rdx (rd_move (v := .int _ _) rfl) ?_
 refine rdx (rd_leq rfl rfl) ?_
 refine rdx (rd_move (v := .bool _) rfl) ?_
 refine TO.decide_ft (s := 10) rfl (fun h1 => ?_) (fun h1 => ?_)
 ·refine TO.guard_false (s := 10) (b' := false) rfl rfl nofun ?_
  refine TO.guard_false (s := 10) (b' := false) rfl rfl nofun ?_
  refine TO.guard_false (s := 10) (b' := false) rfl rfl nofun ?_
  refine rdx (rd_pick_false (v := .bool _) rfl rfl) ?_
  refine rdx (rd_assign (v := .bool _) rfl) ?_
  refine TO.nil (TQ.then_normal (T.ret ?_))
  refine TQ.value ?_ (res1 Tryz.results47 (Res.tmp (v := .bool _) rfl)) _ (.inl rfl)
  show Value.bool _ = Value.bool _; simp [within, h1]
 refine TO.guard_true (s := 10) rfl rfl ?_
 refine rdx (rd_move (v := .int _ _) rfl) ?_
 refine TO.guard_true (s := 10) rfl rfl ?_
 refine rdx (rd_move (v := .int _ _) rfl) ?_
 refine TO.guard_true (s := 10) rfl rfl ?_
 refine rdx (rd_leq rfl rfl) ?_
 refine rdx (rd_pick_true (v := .bool _) rfl rfl) ?_
 refine rdx (rd_assign (v := .bool _) rfl) ?_
 refine TO.nil (TQ.then_normal (T.ret ?_))
 refine TQ.value ?_ (res1 Tryz.results47 (Res.tmp (v := .bool _) rfl)) _ (.inl rfl)
 show Value.bool _ = Value.bool _; simp [within, h1]
theorem c_wish_isWish (w : Wish) : Cv Tryz.prog 45 #[wishV w] [] (.bool (wishOk w)) := by
 refine Ctr.intro Tryz.func45 rfl Tryz.ntmps45 (Nat.le_of_ble_eq_true rfl) fun S0 w0 => ?_
 refine T.seq (T.region ?_)
 refine TO.box (v := .agg #[.int _ _, .int _ _, .int _ _, .int _ _, .int _ _, .int _ _, .int _ _, .int _ _, .string _]) rfl (fun b1 => ?_)
 refine rdx (rd_assign (v := .bool _) rfl) ?_
 refine TO.nil (TQ.then_normal (T.seq (T.region ?_)))
 refine rdx (rd_fieldAddr Tryz.field30_0 rfl) ?_
 refine rdx (rd_load (v := .int _ _) Tryz.one3 rfl (Has.own 0 rfl) rfl) ?_
 refine TO.fn Tryz.enters47 (c_wish_isWithin _ _ _) rfl Reads0 ?_
 refine rdx (rd_move (v := .bool _) rfl) ?_
 refine TO.decide_ft (s := 7) rfl (fun h2 => ?_) (fun h2 => ?_)
 ·refine TO.guard_false (s := 7) (b' := false) rfl rfl nofun ?_
  refine TO.guard_false (s := 7) (b' := false) rfl rfl nofun ?_
  refine TO.guard_false (s := 7) (b' := false) rfl rfl nofun ?_
  refine rdx (rd_pick_false (v := .bool _) rfl rfl) ?_
  refine rdx (rd_assign (v := .bool _) rfl) ?_
  refine TO.nil (TQ.then_normal (T.seq (T.region ?_)))
  refine rdx (rd_move (v := .bool _) rfl) ?_
  refine rdx (rd_move (v := .bool _) rfl) ?_
  refine TO.guard_false (s := 13) (b' := false) rfl rfl nofun ?_
  refine TO.guard_false (s := 13) (b' := false) rfl rfl nofun ?_
  refine TO.guard_false (s := 13) (b' := false) rfl rfl nofun ?_
  refine rdx (rd_pick_false (v := .bool _) rfl rfl) ?_
  refine rdx (rd_move (v := .bool _) rfl) ?_
  refine TO.guard_false (s := 18) (b' := false) rfl rfl nofun ?_
  refine TO.guard_false (s := 18) (b' := false) rfl rfl nofun ?_
  refine TO.guard_false (s := 18) (b' := false) rfl rfl nofun ?_
  refine rdx (rd_pick_false (v := .bool _) rfl rfl) ?_
  refine rdx (rd_move (v := .bool _) rfl) ?_
  refine TO.guard_false (s := 23) (b' := false) rfl rfl nofun ?_
  refine TO.guard_false (s := 23) (b' := false) rfl rfl nofun ?_
  refine TO.guard_false (s := 23) (b' := false) rfl rfl nofun ?_
  refine rdx (rd_pick_false (v := .bool _) rfl rfl) ?_
  refine rdx (rd_move (v := .bool _) rfl) ?_
  refine TO.guard_false (s := 28) (b' := false) rfl rfl nofun ?_
  refine TO.guard_false (s := 28) (b' := false) rfl rfl nofun ?_
  refine TO.guard_false (s := 28) (b' := false) rfl rfl nofun ?_
  refine rdx (rd_pick_false (v := .bool _) rfl rfl) ?_
  refine rdx (rd_assign (v := .bool _) rfl) ?_
  refine TO.nil (TQ.then_normal (T.ret ?_))
  refine TQ.value ?_ (res1 Tryz.results45 (Res.tmp (v := .bool _) rfl)) _ (.inl rfl)
  show Value.bool _ = Value.bool _; simp [wishOk, h2]
 refine TO.guard_true (s := 7) rfl rfl ?_
 refine rdx (rd_fieldAddr Tryz.field30_1 rfl) ?_
 refine TO.guard_true (s := 7) rfl rfl ?_
 refine rdx (rd_load (v := .int _ _) Tryz.one3 rfl (Has.own 0 rfl) rfl) ?_
 refine TO.guard_true (s := 7) rfl rfl ?_
 refine TO.fn Tryz.enters47 (c_wish_isWithin _ _ _) rfl Reads0 ?_
 refine rdx (rd_pick_true (v := .bool _) rfl rfl) ?_
 refine rdx (rd_assign (v := .bool _) rfl) ?_
 refine TO.nil (TQ.then_normal (T.seq (T.region ?_)))
 refine rdx (rd_move (v := .bool _) rfl) ?_
 refine rdx (rd_move (v := .bool _) rfl) ?_
 refine TO.decide_ft (s := 13) rfl (fun h3 => ?_) (fun h3 => ?_)
 ·refine TO.guard_false (s := 13) (b' := false) rfl rfl nofun ?_
  refine TO.guard_false (s := 13) (b' := false) rfl rfl nofun ?_
  refine TO.guard_false (s := 13) (b' := false) rfl rfl nofun ?_
  refine rdx (rd_pick_false (v := .bool _) rfl rfl) ?_
  refine rdx (rd_move (v := .bool _) rfl) ?_
  refine TO.guard_false (s := 18) (b' := false) rfl rfl nofun ?_
  refine TO.guard_false (s := 18) (b' := false) rfl rfl nofun ?_
  refine TO.guard_false (s := 18) (b' := false) rfl rfl nofun ?_
  refine rdx (rd_pick_false (v := .bool _) rfl rfl) ?_
  refine rdx (rd_move (v := .bool _) rfl) ?_
  refine TO.guard_false (s := 23) (b' := false) rfl rfl nofun ?_
  refine TO.guard_false (s := 23) (b' := false) rfl rfl nofun ?_
  refine TO.guard_false (s := 23) (b' := false) rfl rfl nofun ?_
  refine rdx (rd_pick_false (v := .bool _) rfl rfl) ?_
  refine rdx (rd_move (v := .bool _) rfl) ?_
  refine TO.guard_false (s := 28) (b' := false) rfl rfl nofun ?_
  refine TO.guard_false (s := 28) (b' := false) rfl rfl nofun ?_
  refine TO.guard_false (s := 28) (b' := false) rfl rfl nofun ?_
  refine rdx (rd_pick_false (v := .bool _) rfl rfl) ?_
  refine rdx (rd_assign (v := .bool _) rfl) ?_
  refine TO.nil (TQ.then_normal (T.ret ?_))
  refine TQ.value ?_ (res1 Tryz.results45 (Res.tmp (v := .bool _) rfl)) _ (.inl rfl)
  show Value.bool _ = Value.bool _; simp [wishOk, h2, h3]
 refine TO.guard_true (s := 13) rfl rfl ?_
 refine rdx (rd_fieldAddr Tryz.field30_2 rfl) ?_
 refine TO.guard_true (s := 13) rfl rfl ?_
 refine rdx (rd_load_agg (cs := #[.int _ _, .int _ _]) Tryz.agg27 rfl (Has.own 0 rfl) rfl rfl) ?_
 refine TO.guard_true (s := 13) rfl rfl ?_
 refine TO.fn Tryz.enters81 (c_wish_isRange _ _) rfl Reads0 ?_
 refine rdx (rd_pick_true (v := .bool _) rfl rfl) ?_
 refine rdx (rd_move (v := .bool _) rfl) ?_
 refine TO.decide_ft (s := 18) rfl (fun h4 => ?_) (fun h4 => ?_)
 ·refine TO.guard_false (s := 18) (b' := false) rfl rfl nofun ?_
  refine TO.guard_false (s := 18) (b' := false) rfl rfl nofun ?_
  refine TO.guard_false (s := 18) (b' := false) rfl rfl nofun ?_
  refine rdx (rd_pick_false (v := .bool _) rfl rfl) ?_
  refine rdx (rd_move (v := .bool _) rfl) ?_
  refine TO.guard_false (s := 23) (b' := false) rfl rfl nofun ?_
  refine TO.guard_false (s := 23) (b' := false) rfl rfl nofun ?_
  refine TO.guard_false (s := 23) (b' := false) rfl rfl nofun ?_
  refine rdx (rd_pick_false (v := .bool _) rfl rfl) ?_
  refine rdx (rd_move (v := .bool _) rfl) ?_
  refine TO.guard_false (s := 28) (b' := false) rfl rfl nofun ?_
  refine TO.guard_false (s := 28) (b' := false) rfl rfl nofun ?_
  refine TO.guard_false (s := 28) (b' := false) rfl rfl nofun ?_
  refine rdx (rd_pick_false (v := .bool _) rfl rfl) ?_
  refine rdx (rd_assign (v := .bool _) rfl) ?_
  refine TO.nil (TQ.then_normal (T.ret ?_))
  refine TQ.value ?_ (res1 Tryz.results45 (Res.tmp (v := .bool _) rfl)) _ (.inl rfl)
  show Value.bool _ = Value.bool _; simp [wishOk, h2, h3, h4]
 refine TO.guard_true (s := 18) rfl rfl ?_
 refine rdx (rd_fieldAddr Tryz.field30_3 rfl) ?_
 refine TO.guard_true (s := 18) rfl rfl ?_
 refine rdx (rd_load (v := .int _ _) Tryz.one3 rfl (Has.own 0 rfl) rfl) ?_
 refine TO.guard_true (s := 18) rfl rfl ?_
 refine TO.fn Tryz.enters47 (c_wish_isWithin _ _ _) rfl Reads0 ?_
 refine rdx (rd_pick_true (v := .bool _) rfl rfl) ?_
 refine rdx (rd_move (v := .bool _) rfl) ?_
 refine TO.decide_ft (s := 23) rfl (fun h5 => ?_) (fun h5 => ?_)
 ·refine TO.guard_false (s := 23) (b' := false) rfl rfl nofun ?_
  refine TO.guard_false (s := 23) (b' := false) rfl rfl nofun ?_
  refine TO.guard_false (s := 23) (b' := false) rfl rfl nofun ?_
  refine rdx (rd_pick_false (v := .bool _) rfl rfl) ?_
  refine rdx (rd_move (v := .bool _) rfl) ?_
  refine TO.guard_false (s := 28) (b' := false) rfl rfl nofun ?_
  refine TO.guard_false (s := 28) (b' := false) rfl rfl nofun ?_
  refine TO.guard_false (s := 28) (b' := false) rfl rfl nofun ?_
  refine rdx (rd_pick_false (v := .bool _) rfl rfl) ?_
  refine rdx (rd_assign (v := .bool _) rfl) ?_
  refine TO.nil (TQ.then_normal (T.ret ?_))
  refine TQ.value ?_ (res1 Tryz.results45 (Res.tmp (v := .bool _) rfl)) _ (.inl rfl)
  show Value.bool _ = Value.bool _; simp [wishOk, h2, h3, h4, h5]
 refine TO.guard_true (s := 23) rfl rfl ?_
 refine rdx (rd_fieldAddr Tryz.field30_4 rfl) ?_
 refine TO.guard_true (s := 23) rfl rfl ?_
 refine rdx (rd_load (v := .int _ _) Tryz.one3 rfl (Has.own 0 rfl) rfl) ?_
 refine TO.guard_true (s := 23) rfl rfl ?_
 refine TO.fn Tryz.enters47 (c_wish_isWithin _ _ _) rfl Reads0 ?_
 refine rdx (rd_pick_true (v := .bool _) rfl rfl) ?_
 refine rdx (rd_move (v := .bool _) rfl) ?_
 refine TO.decide_ft (s := 28) rfl (fun h6 => ?_) (fun h6 => ?_)
 ·refine TO.guard_false (s := 28) (b' := false) rfl rfl nofun ?_
  refine TO.guard_false (s := 28) (b' := false) rfl rfl nofun ?_
  refine TO.guard_false (s := 28) (b' := false) rfl rfl nofun ?_
  refine rdx (rd_pick_false (v := .bool _) rfl rfl) ?_
  refine rdx (rd_assign (v := .bool _) rfl) ?_
  refine TO.nil (TQ.then_normal (T.ret ?_))
  refine TQ.value ?_ (res1 Tryz.results45 (Res.tmp (v := .bool _) rfl)) _ (.inl rfl)
  show Value.bool _ = Value.bool _; simp [wishOk, h2, h3, h4, h5, h6]
 refine TO.guard_true (s := 28) rfl rfl ?_
 refine rdx (rd_fieldAddr Tryz.field30_5 rfl) ?_
 refine TO.guard_true (s := 28) rfl rfl ?_
 refine rdx (rd_load_agg (cs := #[.int _ _, .int _ _]) Tryz.agg28 rfl (Has.own 0 rfl) rfl rfl) ?_
 refine TO.guard_true (s := 28) rfl rfl ?_
 refine TO.fn Tryz.enters82 (c_wish_isSpell _ _) rfl Reads0 ?_
 refine rdx (rd_pick_true (v := .bool _) rfl rfl) ?_
 refine rdx (rd_assign (v := .bool _) rfl) ?_
 refine TO.nil (TQ.then_normal (T.ret ?_))
 refine TQ.value ?_ (res1 Tryz.results45 (Res.tmp (v := .bool _) rfl)) _ (.inl rfl)
 show Value.bool _ = Value.bool _; simp [wishOk, h2, h3, h4, h5, h6]
theorem c_wish_isProxy (p : Proxy) : Cv Tryz.prog 60 #[proxyV p] [] (.bool (proxyOk p)) := by
 refine Ctr.intro Tryz.func60 rfl Tryz.ntmps60 (Nat.le_of_ble_eq_true rfl) fun S0 w0 => ?_
 refine T.seq (T.region ?_)
 refine TO.box (v := .agg #[.int _ _, .int _ _, .int _ _, .int _ _, .int _ _, .int _ _, .string _]) rfl (fun b1 => ?_)
 refine rdx (rd_assign (v := .bool _) rfl) ?_
 refine TO.nil (TQ.then_normal (T.seq (T.region ?_)))
 refine rdx (rd_fieldAddr Tryz.field40_0 rfl) ?_
 refine rdx (rd_load (v := .int _ _) Tryz.one3 rfl (Has.own 0 rfl) rfl) ?_
 refine TO.fn Tryz.enters47 (c_wish_isWithin _ _ _) rfl Reads0 ?_
 refine rdx (rd_move (v := .bool _) rfl) ?_
 refine TO.decide_ft (s := 7) rfl (fun h2 => ?_) (fun h2 => ?_)
 ·refine TO.guard_false (s := 7) (b' := false) rfl rfl nofun ?_
  refine TO.guard_false (s := 7) (b' := false) rfl rfl nofun ?_
  refine TO.guard_false (s := 7) (b' := false) rfl rfl nofun ?_
  refine rdx (rd_pick_false (v := .bool _) rfl rfl) ?_
  refine rdx (rd_move (v := .bool _) rfl) ?_
  refine TO.guard_false (s := 12) (b' := false) rfl rfl nofun ?_
  refine TO.guard_false (s := 12) (b' := false) rfl rfl nofun ?_
  refine TO.guard_false (s := 12) (b' := false) rfl rfl nofun ?_
  refine TO.guard_false (s := 12) (b' := false) rfl rfl nofun ?_
  refine TO.guard_false (s := 12) (b' := false) rfl rfl nofun ?_
  refine rdx (rd_pick_false (v := .bool _) rfl rfl) ?_
  refine rdx (rd_assign (v := .bool _) rfl) ?_
  refine TO.nil (TQ.then_normal (T.seq (T.region ?_)))
  refine rdx (rd_move (v := .bool _) rfl) ?_
  refine rdx (rd_move (v := .bool _) rfl) ?_
  refine TO.guard_false (s := 20) (b' := false) rfl rfl nofun ?_
  refine TO.guard_false (s := 20) (b' := false) rfl rfl nofun ?_
  refine TO.guard_false (s := 20) (b' := false) rfl rfl nofun ?_
  refine rdx (rd_pick_false (v := .bool _) rfl rfl) ?_
  refine rdx (rd_move (v := .bool _) rfl) ?_
  refine TO.guard_false (s := 25) (b' := false) rfl rfl nofun ?_
  refine TO.guard_false (s := 25) (b' := false) rfl rfl nofun ?_
  refine TO.guard_false (s := 25) (b' := false) rfl rfl nofun ?_
  refine rdx (rd_pick_false (v := .bool _) rfl rfl) ?_
  refine rdx (rd_assign (v := .bool _) rfl) ?_
  refine TO.nil (TQ.then_normal (T.ret ?_))
  refine TQ.value ?_ (res1 Tryz.results60 (Res.tmp (v := .bool _) rfl)) _ (.inl rfl)
  show Value.bool _ = Value.bool _; simp [proxyOk, h2]
 refine TO.guard_true (s := 7) rfl rfl ?_
 refine rdx (rd_fieldAddr Tryz.field40_1 rfl) ?_
 refine TO.guard_true (s := 7) rfl rfl ?_
 refine rdx (rd_load (v := .int _ _) Tryz.one3 rfl (Has.own 0 rfl) rfl) ?_
 refine TO.guard_true (s := 7) rfl rfl ?_
 refine TO.fn Tryz.enters47 (c_wish_isWithin _ _ _) rfl Reads0 ?_
 refine rdx (rd_pick_true (v := .bool _) rfl rfl) ?_
 refine rdx (rd_move (v := .bool _) rfl) ?_
 refine TO.decide_ft (s := 12) rfl (fun h3 => ?_) (fun h3 => ?_)
 ·refine TO.guard_false (s := 12) (b' := false) rfl rfl nofun ?_
  refine TO.guard_false (s := 12) (b' := false) rfl rfl nofun ?_
  refine TO.guard_false (s := 12) (b' := false) rfl rfl nofun ?_
  refine TO.guard_false (s := 12) (b' := false) rfl rfl nofun ?_
  refine TO.guard_false (s := 12) (b' := false) rfl rfl nofun ?_
  refine rdx (rd_pick_false (v := .bool _) rfl rfl) ?_
  refine rdx (rd_assign (v := .bool _) rfl) ?_
  refine TO.nil (TQ.then_normal (T.seq (T.region ?_)))
  refine rdx (rd_move (v := .bool _) rfl) ?_
  refine rdx (rd_move (v := .bool _) rfl) ?_
  refine TO.guard_false (s := 20) (b' := false) rfl rfl nofun ?_
  refine TO.guard_false (s := 20) (b' := false) rfl rfl nofun ?_
  refine TO.guard_false (s := 20) (b' := false) rfl rfl nofun ?_
  refine rdx (rd_pick_false (v := .bool _) rfl rfl) ?_
  refine rdx (rd_move (v := .bool _) rfl) ?_
  refine TO.guard_false (s := 25) (b' := false) rfl rfl nofun ?_
  refine TO.guard_false (s := 25) (b' := false) rfl rfl nofun ?_
  refine TO.guard_false (s := 25) (b' := false) rfl rfl nofun ?_
  refine rdx (rd_pick_false (v := .bool _) rfl rfl) ?_
  refine rdx (rd_assign (v := .bool _) rfl) ?_
  refine TO.nil (TQ.then_normal (T.ret ?_))
  refine TQ.value ?_ (res1 Tryz.results60 (Res.tmp (v := .bool _) rfl)) _ (.inl rfl)
  show Value.bool _ = Value.bool _; simp [proxyOk, h2, h3]
 refine TO.guard_true (s := 12) rfl rfl ?_
 refine rdx (rd_fieldAddr Tryz.field40_0 rfl) ?_
 refine TO.guard_true (s := 12) rfl rfl ?_
 refine rdx (rd_load (v := .int _ _) Tryz.one3 rfl (Has.own 0 rfl) rfl) ?_
 refine TO.guard_true (s := 12) rfl rfl ?_
 refine rdx (rd_fieldAddr Tryz.field40_1 rfl) ?_
 refine TO.guard_true (s := 12) rfl rfl ?_
 refine rdx (rd_load (v := .int _ _) Tryz.one3 rfl (Has.own 0 rfl) rfl) ?_
 refine TO.guard_true (s := 12) rfl rfl ?_
 refine rdx (rd_neq rfl rfl) ?_
 refine rdx (rd_pick_true (v := .bool _) rfl rfl) ?_
 refine rdx (rd_assign (v := .bool _) rfl) ?_
 refine TO.nil (TQ.then_normal (T.seq (T.region ?_)))
 refine rdx (rd_move (v := .bool _) rfl) ?_
 refine rdx (rd_move (v := .bool _) rfl) ?_
 refine TO.decide_ft (s := 20) rfl (fun h4 => ?_) (fun h4 => ?_)
 ·refine TO.guard_false (s := 20) (b' := false) rfl rfl nofun ?_
  refine TO.guard_false (s := 20) (b' := false) rfl rfl nofun ?_
  refine TO.guard_false (s := 20) (b' := false) rfl rfl nofun ?_
  refine rdx (rd_pick_false (v := .bool _) rfl rfl) ?_
  refine rdx (rd_move (v := .bool _) rfl) ?_
  refine TO.guard_false (s := 25) (b' := false) rfl rfl nofun ?_
  refine TO.guard_false (s := 25) (b' := false) rfl rfl nofun ?_
  refine TO.guard_false (s := 25) (b' := false) rfl rfl nofun ?_
  refine rdx (rd_pick_false (v := .bool _) rfl rfl) ?_
  refine rdx (rd_assign (v := .bool _) rfl) ?_
  refine TO.nil (TQ.then_normal (T.ret ?_))
  refine TQ.value ?_ (res1 Tryz.results60 (Res.tmp (v := .bool _) rfl)) _ (.inl rfl)
  show Value.bool _ = Value.bool _; simp [proxyOk, h2, h3, h4]
 refine TO.guard_true (s := 20) rfl rfl ?_
 refine rdx (rd_fieldAddr Tryz.field40_2 rfl) ?_
 refine TO.guard_true (s := 20) rfl rfl ?_
 refine rdx (rd_load_agg (cs := #[.int _ _, .int _ _]) Tryz.agg27 rfl (Has.own 0 rfl) rfl rfl) ?_
 refine TO.guard_true (s := 20) rfl rfl ?_
 refine TO.fn Tryz.enters81 (c_wish_isRange _ _) rfl Reads0 ?_
 refine rdx (rd_pick_true (v := .bool _) rfl rfl) ?_
 refine rdx (rd_move (v := .bool _) rfl) ?_
 refine TO.decide_ft (s := 25) rfl (fun h5 => ?_) (fun h5 => ?_)
 ·refine TO.guard_false (s := 25) (b' := false) rfl rfl nofun ?_
  refine TO.guard_false (s := 25) (b' := false) rfl rfl nofun ?_
  refine TO.guard_false (s := 25) (b' := false) rfl rfl nofun ?_
  refine rdx (rd_pick_false (v := .bool _) rfl rfl) ?_
  refine rdx (rd_assign (v := .bool _) rfl) ?_
  refine TO.nil (TQ.then_normal (T.ret ?_))
  refine TQ.value ?_ (res1 Tryz.results60 (Res.tmp (v := .bool _) rfl)) _ (.inl rfl)
  show Value.bool _ = Value.bool _; simp [proxyOk, h2, h3, h4, h5]
 refine TO.guard_true (s := 25) rfl rfl ?_
 refine rdx (rd_fieldAddr Tryz.field40_3 rfl) ?_
 refine TO.guard_true (s := 25) rfl rfl ?_
 refine rdx (rd_load_agg (cs := #[.int _ _, .int _ _]) Tryz.agg28 rfl (Has.own 0 rfl) rfl rfl) ?_
 refine TO.guard_true (s := 25) rfl rfl ?_
 refine TO.fn Tryz.enters82 (c_wish_isSpell _ _) rfl Reads0 ?_
 refine rdx (rd_pick_true (v := .bool _) rfl rfl) ?_
 refine rdx (rd_assign (v := .bool _) rfl) ?_
 refine TO.nil (TQ.then_normal (T.ret ?_))
 refine TQ.value ?_ (res1 Tryz.results60 (Res.tmp (v := .bool _) rfl)) _ (.inl rfl)
 show Value.bool _ = Value.bool _; simp [proxyOk, h2, h3, h4, h5]
theorem c_wish_isKey (s : Bytes) : Cv Tryz.prog 43 #[.string (str s)] [] (.bool ((s.length : Int) == 32)) := by
 refine Ctr.intro Tryz.func43 rfl Tryz.ntmps43 (Nat.le_of_ble_eq_true rfl) fun S0 w0 => ?_
 refine T.seq (T.region ?_)
 refine rdx (rd_assign (v := .bool _) rfl) ?_
 refine TO.nil (TQ.then_normal (T.seq (T.region ?_)))
 refine rdx (rd_move (v := .string _) rfl) ?_
 refine rdx (rd_lens' Tryz.under9 rfl) ?_
 refine rdx (rd_eql rfl rfl) ?_
 refine rdx (rd_assign (v := .bool _) rfl) ?_
 refine TO.nil (TQ.then_normal (T.ret ?_))
 refine TQ.value ?_ (res1 Tryz.results43 (Res.tmp (v := .bool _) rfl)) _ (.inl rfl)
 rfl
theorem c_dialtoneref15_in (n low high : Int) : Cv Tryz.prog 73 #[.int .i64 n, .int .i64 low, .int .i64 high] [] (.bool (within n low high)) := by
 refine Ctr.intro Tryz.func73 rfl Tryz.ntmps73 (Nat.le_of_ble_eq_true rfl) fun S0 w0 => ?_
 refine T.seq (T.region ?_)
 refine rdx (rd_assign (v := .bool _) rfl) ?_
 refine TO.nil (TQ.then_normal (T.seq (T.region ?_)))
 refine rdx (rd_move (v := .int _ _) rfl) ?_
 refine rdx (rd_move (v := .int _ _) rfl) ?_
 refine rdx (rd_geq rfl rfl) ?_
 refine rdx (rd_move (v := .bool _) rfl) ?_
 refine TO.decide_ft (s := 10) rfl (fun h1 => ?_) (fun h1 => ?_)
 ·refine TO.guard_false (s := 10) (b' := false) rfl rfl nofun ?_
  refine TO.guard_false (s := 10) (b' := false) rfl rfl nofun ?_
  refine TO.guard_false (s := 10) (b' := false) rfl rfl nofun ?_
  refine rdx (rd_pick_false (v := .bool _) rfl rfl) ?_
  refine rdx (rd_assign (v := .bool _) rfl) ?_
  refine TO.nil (TQ.then_normal (T.ret ?_))
  refine TQ.value ?_ (res1 Tryz.results73 (Res.tmp (v := .bool _) rfl)) _ (.inl rfl)
  show Value.bool _ = Value.bool _; simp [within, h1]
 refine TO.guard_true (s := 10) rfl rfl ?_
 refine rdx (rd_move (v := .int _ _) rfl) ?_
 refine TO.guard_true (s := 10) rfl rfl ?_
 refine rdx (rd_move (v := .int _ _) rfl) ?_
 refine TO.guard_true (s := 10) rfl rfl ?_
 refine rdx (rd_leq rfl rfl) ?_
 refine rdx (rd_pick_true (v := .bool _) rfl rfl) ?_
 refine rdx (rd_assign (v := .bool _) rfl) ?_
 refine TO.nil (TQ.then_normal (T.ret ?_))
 refine TQ.value ?_ (res1 Tryz.results73 (Res.tmp (v := .bool _) rfl)) _ (.inl rfl)
 show Value.bool _ = Value.bool _; simp [within, h1]
theorem c_ref15_Range (lo hi : Int) : Cv Tryz.prog 89 #[.agg #[.int .i64 lo, .int .i64 hi]] [] (.bool (rangeOk lo hi)) := by
 refine Ctr.intro Tryz.func89 rfl Tryz.ntmps89 (Nat.le_of_ble_eq_true rfl) fun S0 w0 => ?_
 refine T.seq (T.region ?_)
 refine TO.box (v := .agg #[.int _ _, .int _ _]) rfl (fun b1 => ?_)
 refine rdx (rd_assign (v := .bool _) rfl) ?_
 refine TO.nil (TQ.then_normal (T.seq (T.region ?_)))
 refine rdx (rd_fieldAddr Tryz.field27_0 rfl) ?_
 refine rdx (rd_load (v := .int _ _) Tryz.one3 rfl (Has.own 0 rfl) rfl) ?_
 refine rdx (rd_geq rfl rfl) ?_
 refine rdx (rd_move (v := .bool _) rfl) ?_
 refine TO.decide_ft (s := 6) rfl (fun h2 => ?_) (fun h2 => ?_)
 ·refine TO.guard_false (s := 6) (b' := false) rfl rfl nofun ?_
  refine TO.guard_false (s := 6) (b' := false) rfl rfl nofun ?_
  refine TO.guard_false (s := 6) (b' := false) rfl rfl nofun ?_
  refine TO.guard_false (s := 6) (b' := false) rfl rfl nofun ?_
  refine TO.guard_false (s := 6) (b' := false) rfl rfl nofun ?_
  refine rdx (rd_pick_false (v := .bool _) rfl rfl) ?_
  refine rdx (rd_move (v := .bool _) rfl) ?_
  refine TO.guard_false (s := 13) (b' := false) rfl rfl nofun ?_
  refine TO.guard_false (s := 13) (b' := false) rfl rfl nofun ?_
  refine TO.guard_false (s := 13) (b' := false) rfl rfl nofun ?_
  refine rdx (rd_pick_false (v := .bool _) rfl rfl) ?_
  refine rdx (rd_assign (v := .bool _) rfl) ?_
  refine TO.nil (TQ.then_normal (T.ret ?_))
  refine TQ.value ?_ (res1 Tryz.results89 (Res.tmp (v := .bool _) rfl)) _ (.inl rfl)
  show Value.bool _ = Value.bool _; simp [rangeOk, h2]
 refine TO.guard_true (s := 6) rfl rfl ?_
 refine rdx (rd_fieldAddr Tryz.field27_0 rfl) ?_
 refine TO.guard_true (s := 6) rfl rfl ?_
 refine rdx (rd_load (v := .int _ _) Tryz.one3 rfl (Has.own 0 rfl) rfl) ?_
 refine TO.guard_true (s := 6) rfl rfl ?_
 refine rdx (rd_fieldAddr Tryz.field27_1 rfl) ?_
 refine TO.guard_true (s := 6) rfl rfl ?_
 refine rdx (rd_load (v := .int _ _) Tryz.one3 rfl (Has.own 0 rfl) rfl) ?_
 refine TO.guard_true (s := 6) rfl rfl ?_
 refine rdx (rd_lss rfl rfl) ?_
 refine rdx (rd_pick_true (v := .bool _) rfl rfl) ?_
 refine rdx (rd_move (v := .bool _) rfl) ?_
 refine TO.decide_ft (s := 13) rfl (fun h3 => ?_) (fun h3 => ?_)
 ·refine TO.guard_false (s := 13) (b' := false) rfl rfl nofun ?_
  refine TO.guard_false (s := 13) (b' := false) rfl rfl nofun ?_
  refine TO.guard_false (s := 13) (b' := false) rfl rfl nofun ?_
  refine rdx (rd_pick_false (v := .bool _) rfl rfl) ?_
  refine rdx (rd_assign (v := .bool _) rfl) ?_
  refine TO.nil (TQ.then_normal (T.ret ?_))
  refine TQ.value ?_ (res1 Tryz.results89 (Res.tmp (v := .bool _) rfl)) _ (.inl rfl)
  show Value.bool _ = Value.bool _; simp [rangeOk, h2, h3]
 refine TO.guard_true (s := 13) rfl rfl ?_
 refine rdx (rd_fieldAddr Tryz.field27_1 rfl) ?_
 refine TO.guard_true (s := 13) rfl rfl ?_
 refine rdx (rd_load (v := .int _ _) Tryz.one3 rfl (Has.own 0 rfl) rfl) ?_
 refine TO.guard_true (s := 13) rfl rfl ?_
 refine rdx (rd_leq rfl rfl) ?_
 refine rdx (rd_pick_true (v := .bool _) rfl rfl) ?_
 refine rdx (rd_assign (v := .bool _) rfl) ?_
 refine TO.nil (TQ.then_normal (T.ret ?_))
 refine TQ.value ?_ (res1 Tryz.results89 (Res.tmp (v := .bool _) rfl)) _ (.inl rfl)
 show Value.bool _ = Value.bool _; simp [rangeOk, h2, h3]
theorem c_ref15_Spell (lo hi : Int) : Cv Tryz.prog 90 #[.agg #[.int .i64 lo, .int .i64 hi]] [] (.bool (spellOk lo hi)) := by
 refine Ctr.intro Tryz.func90 rfl Tryz.ntmps90 (Nat.le_of_ble_eq_true rfl) fun S0 w0 => ?_
 refine T.seq (T.region ?_)
 refine TO.box (v := .agg #[.int _ _, .int _ _]) rfl (fun b1 => ?_)
 refine rdx (rd_assign (v := .bool _) rfl) ?_
 refine TO.nil (TQ.then_normal (T.seq (T.region ?_)))
 refine rdx (rd_fieldAddr Tryz.field28_0 rfl) ?_
 refine rdx (rd_load (v := .int _ _) Tryz.one3 rfl (Has.own 0 rfl) rfl) ?_
 refine rdx (rd_geq rfl rfl) ?_
 refine rdx (rd_move (v := .bool _) rfl) ?_
 refine TO.decide_ft (s := 6) rfl (fun h2 => ?_) (fun h2 => ?_)
 ·refine TO.guard_false (s := 6) (b' := false) rfl rfl nofun ?_
  refine TO.guard_false (s := 6) (b' := false) rfl rfl nofun ?_
  refine TO.guard_false (s := 6) (b' := false) rfl rfl nofun ?_
  refine TO.guard_false (s := 6) (b' := false) rfl rfl nofun ?_
  refine TO.guard_false (s := 6) (b' := false) rfl rfl nofun ?_
  refine rdx (rd_pick_false (v := .bool _) rfl rfl) ?_
  refine rdx (rd_move (v := .bool _) rfl) ?_
  refine TO.guard_false (s := 13) (b' := false) rfl rfl nofun ?_
  refine TO.guard_false (s := 13) (b' := false) rfl rfl nofun ?_
  refine TO.guard_false (s := 13) (b' := false) rfl rfl nofun ?_
  refine rdx (rd_pick_false (v := .bool _) rfl rfl) ?_
  refine rdx (rd_assign (v := .bool _) rfl) ?_
  refine TO.nil (TQ.then_normal (T.ret ?_))
  refine TQ.value ?_ (res1 Tryz.results90 (Res.tmp (v := .bool _) rfl)) _ (.inl rfl)
  show Value.bool _ = Value.bool _; simp [spellOk, h2]
 refine TO.guard_true (s := 6) rfl rfl ?_
 refine rdx (rd_fieldAddr Tryz.field28_0 rfl) ?_
 refine TO.guard_true (s := 6) rfl rfl ?_
 refine rdx (rd_load (v := .int _ _) Tryz.one3 rfl (Has.own 0 rfl) rfl) ?_
 refine TO.guard_true (s := 6) rfl rfl ?_
 refine rdx (rd_fieldAddr Tryz.field28_1 rfl) ?_
 refine TO.guard_true (s := 6) rfl rfl ?_
 refine rdx (rd_load (v := .int _ _) Tryz.one3 rfl (Has.own 0 rfl) rfl) ?_
 refine TO.guard_true (s := 6) rfl rfl ?_
 refine rdx (rd_lss rfl rfl) ?_
 refine rdx (rd_pick_true (v := .bool _) rfl rfl) ?_
 refine rdx (rd_move (v := .bool _) rfl) ?_
 refine TO.decide_ft (s := 13) rfl (fun h3 => ?_) (fun h3 => ?_)
 ·refine TO.guard_false (s := 13) (b' := false) rfl rfl nofun ?_
  refine TO.guard_false (s := 13) (b' := false) rfl rfl nofun ?_
  refine TO.guard_false (s := 13) (b' := false) rfl rfl nofun ?_
  refine rdx (rd_pick_false (v := .bool _) rfl rfl) ?_
  refine rdx (rd_assign (v := .bool _) rfl) ?_
  refine TO.nil (TQ.then_normal (T.ret ?_))
  refine TQ.value ?_ (res1 Tryz.results90 (Res.tmp (v := .bool _) rfl)) _ (.inl rfl)
  show Value.bool _ = Value.bool _; simp [spellOk, h2, h3]
 refine TO.guard_true (s := 13) rfl rfl ?_
 refine rdx (rd_fieldAddr Tryz.field28_1 rfl) ?_
 refine TO.guard_true (s := 13) rfl rfl ?_
 refine rdx (rd_load (v := .int _ _) Tryz.one3 rfl (Has.own 0 rfl) rfl) ?_
 refine TO.guard_true (s := 13) rfl rfl ?_
 refine rdx (rd_leq rfl rfl) ?_
 refine rdx (rd_pick_true (v := .bool _) rfl rfl) ?_
 refine rdx (rd_assign (v := .bool _) rfl) ?_
 refine TO.nil (TQ.then_normal (T.ret ?_))
 refine TQ.value ?_ (res1 Tryz.results90 (Res.tmp (v := .bool _) rfl)) _ (.inl rfl)
 show Value.bool _ = Value.bool _; simp [spellOk, h2, h3]
theorem c_ref15_wish (w : Wish) : Cv Tryz.prog 55 #[wishV w] [] (.bool (wishOk w)) := by
 refine Ctr.intro Tryz.func55 rfl Tryz.ntmps55 (Nat.le_of_ble_eq_true rfl) fun S0 w0 => ?_
 refine T.seq (T.region ?_)
 refine TO.box (v := .agg #[.int _ _, .int _ _, .int _ _, .int _ _, .int _ _, .int _ _, .int _ _, .int _ _, .string _]) rfl (fun b1 => ?_)
 refine rdx (rd_assign (v := .bool _) rfl) ?_
 refine TO.nil (TQ.then_normal (T.seq (T.region ?_)))
 refine rdx (rd_fieldAddr Tryz.field30_0 rfl) ?_
 refine rdx (rd_load (v := .int _ _) Tryz.one3 rfl (Has.own 0 rfl) rfl) ?_
 refine TO.fn Tryz.enters73 (c_dialtoneref15_in _ _ _) rfl Reads0 ?_
 refine rdx (rd_move (v := .bool _) rfl) ?_
 refine TO.decide_ft (s := 6) rfl (fun h2 => ?_) (fun h2 => ?_)
 ·refine TO.guard_false (s := 6) (b' := false) rfl rfl nofun ?_
  refine TO.guard_false (s := 6) (b' := false) rfl rfl nofun ?_
  refine TO.guard_false (s := 6) (b' := false) rfl rfl nofun ?_
  refine rdx (rd_pick_false (v := .bool _) rfl rfl) ?_
  refine rdx (rd_move (v := .bool _) rfl) ?_
  refine TO.guard_false (s := 11) (b' := false) rfl rfl nofun ?_
  refine TO.guard_false (s := 11) (b' := false) rfl rfl nofun ?_
  refine TO.guard_false (s := 11) (b' := false) rfl rfl nofun ?_
  refine rdx (rd_pick_false (v := .bool _) rfl rfl) ?_
  refine rdx (rd_move (v := .bool _) rfl) ?_
  refine TO.guard_false (s := 16) (b' := false) rfl rfl nofun ?_
  refine TO.guard_false (s := 16) (b' := false) rfl rfl nofun ?_
  refine TO.guard_false (s := 16) (b' := false) rfl rfl nofun ?_
  refine rdx (rd_pick_false (v := .bool _) rfl rfl) ?_
  refine rdx (rd_move (v := .bool _) rfl) ?_
  refine TO.guard_false (s := 21) (b' := false) rfl rfl nofun ?_
  refine TO.guard_false (s := 21) (b' := false) rfl rfl nofun ?_
  refine TO.guard_false (s := 21) (b' := false) rfl rfl nofun ?_
  refine rdx (rd_pick_false (v := .bool _) rfl rfl) ?_
  refine rdx (rd_move (v := .bool _) rfl) ?_
  refine TO.guard_false (s := 26) (b' := false) rfl rfl nofun ?_
  refine TO.guard_false (s := 26) (b' := false) rfl rfl nofun ?_
  refine TO.guard_false (s := 26) (b' := false) rfl rfl nofun ?_
  refine rdx (rd_pick_false (v := .bool _) rfl rfl) ?_
  refine rdx (rd_assign (v := .bool _) rfl) ?_
  refine TO.nil (TQ.then_normal (T.ret ?_))
  refine TQ.value ?_ (res1 Tryz.results55 (Res.tmp (v := .bool _) rfl)) _ (.inl rfl)
  show Value.bool _ = Value.bool _; simp [wishOk, h2]
 refine TO.guard_true (s := 6) rfl rfl ?_
 refine rdx (rd_fieldAddr Tryz.field30_1 rfl) ?_
 refine TO.guard_true (s := 6) rfl rfl ?_
 refine rdx (rd_load (v := .int _ _) Tryz.one3 rfl (Has.own 0 rfl) rfl) ?_
 refine TO.guard_true (s := 6) rfl rfl ?_
 refine TO.fn Tryz.enters73 (c_dialtoneref15_in _ _ _) rfl Reads0 ?_
 refine rdx (rd_pick_true (v := .bool _) rfl rfl) ?_
 refine rdx (rd_move (v := .bool _) rfl) ?_
 refine TO.decide_ft (s := 11) rfl (fun h3 => ?_) (fun h3 => ?_)
 ·refine TO.guard_false (s := 11) (b' := false) rfl rfl nofun ?_
  refine TO.guard_false (s := 11) (b' := false) rfl rfl nofun ?_
  refine TO.guard_false (s := 11) (b' := false) rfl rfl nofun ?_
  refine rdx (rd_pick_false (v := .bool _) rfl rfl) ?_
  refine rdx (rd_move (v := .bool _) rfl) ?_
  refine TO.guard_false (s := 16) (b' := false) rfl rfl nofun ?_
  refine TO.guard_false (s := 16) (b' := false) rfl rfl nofun ?_
  refine TO.guard_false (s := 16) (b' := false) rfl rfl nofun ?_
  refine rdx (rd_pick_false (v := .bool _) rfl rfl) ?_
  refine rdx (rd_move (v := .bool _) rfl) ?_
  refine TO.guard_false (s := 21) (b' := false) rfl rfl nofun ?_
  refine TO.guard_false (s := 21) (b' := false) rfl rfl nofun ?_
  refine TO.guard_false (s := 21) (b' := false) rfl rfl nofun ?_
  refine rdx (rd_pick_false (v := .bool _) rfl rfl) ?_
  refine rdx (rd_move (v := .bool _) rfl) ?_
  refine TO.guard_false (s := 26) (b' := false) rfl rfl nofun ?_
  refine TO.guard_false (s := 26) (b' := false) rfl rfl nofun ?_
  refine TO.guard_false (s := 26) (b' := false) rfl rfl nofun ?_
  refine rdx (rd_pick_false (v := .bool _) rfl rfl) ?_
  refine rdx (rd_assign (v := .bool _) rfl) ?_
  refine TO.nil (TQ.then_normal (T.ret ?_))
  refine TQ.value ?_ (res1 Tryz.results55 (Res.tmp (v := .bool _) rfl)) _ (.inl rfl)
  show Value.bool _ = Value.bool _; simp [wishOk, h2, h3]
 refine TO.guard_true (s := 11) rfl rfl ?_
 refine rdx (rd_fieldAddr Tryz.field30_2 rfl) ?_
 refine TO.guard_true (s := 11) rfl rfl ?_
 refine rdx (rd_load_agg (cs := #[.int _ _, .int _ _]) Tryz.agg27 rfl (Has.own 0 rfl) rfl rfl) ?_
 refine TO.guard_true (s := 11) rfl rfl ?_
 refine TO.fn Tryz.enters89 (c_ref15_Range _ _) rfl Reads0 ?_
 refine rdx (rd_pick_true (v := .bool _) rfl rfl) ?_
 refine rdx (rd_move (v := .bool _) rfl) ?_
 refine TO.decide_ft (s := 16) rfl (fun h4 => ?_) (fun h4 => ?_)
 ·refine TO.guard_false (s := 16) (b' := false) rfl rfl nofun ?_
  refine TO.guard_false (s := 16) (b' := false) rfl rfl nofun ?_
  refine TO.guard_false (s := 16) (b' := false) rfl rfl nofun ?_
  refine rdx (rd_pick_false (v := .bool _) rfl rfl) ?_
  refine rdx (rd_move (v := .bool _) rfl) ?_
  refine TO.guard_false (s := 21) (b' := false) rfl rfl nofun ?_
  refine TO.guard_false (s := 21) (b' := false) rfl rfl nofun ?_
  refine TO.guard_false (s := 21) (b' := false) rfl rfl nofun ?_
  refine rdx (rd_pick_false (v := .bool _) rfl rfl) ?_
  refine rdx (rd_move (v := .bool _) rfl) ?_
  refine TO.guard_false (s := 26) (b' := false) rfl rfl nofun ?_
  refine TO.guard_false (s := 26) (b' := false) rfl rfl nofun ?_
  refine TO.guard_false (s := 26) (b' := false) rfl rfl nofun ?_
  refine rdx (rd_pick_false (v := .bool _) rfl rfl) ?_
  refine rdx (rd_assign (v := .bool _) rfl) ?_
  refine TO.nil (TQ.then_normal (T.ret ?_))
  refine TQ.value ?_ (res1 Tryz.results55 (Res.tmp (v := .bool _) rfl)) _ (.inl rfl)
  show Value.bool _ = Value.bool _; simp [wishOk, h2, h3, h4]
 refine TO.guard_true (s := 16) rfl rfl ?_
 refine rdx (rd_fieldAddr Tryz.field30_3 rfl) ?_
 refine TO.guard_true (s := 16) rfl rfl ?_
 refine rdx (rd_load (v := .int _ _) Tryz.one3 rfl (Has.own 0 rfl) rfl) ?_
 refine TO.guard_true (s := 16) rfl rfl ?_
 refine TO.fn Tryz.enters73 (c_dialtoneref15_in _ _ _) rfl Reads0 ?_
 refine rdx (rd_pick_true (v := .bool _) rfl rfl) ?_
 refine rdx (rd_move (v := .bool _) rfl) ?_
 refine TO.decide_ft (s := 21) rfl (fun h5 => ?_) (fun h5 => ?_)
 ·refine TO.guard_false (s := 21) (b' := false) rfl rfl nofun ?_
  refine TO.guard_false (s := 21) (b' := false) rfl rfl nofun ?_
  refine TO.guard_false (s := 21) (b' := false) rfl rfl nofun ?_
  refine rdx (rd_pick_false (v := .bool _) rfl rfl) ?_
  refine rdx (rd_move (v := .bool _) rfl) ?_
  refine TO.guard_false (s := 26) (b' := false) rfl rfl nofun ?_
  refine TO.guard_false (s := 26) (b' := false) rfl rfl nofun ?_
  refine TO.guard_false (s := 26) (b' := false) rfl rfl nofun ?_
  refine rdx (rd_pick_false (v := .bool _) rfl rfl) ?_
  refine rdx (rd_assign (v := .bool _) rfl) ?_
  refine TO.nil (TQ.then_normal (T.ret ?_))
  refine TQ.value ?_ (res1 Tryz.results55 (Res.tmp (v := .bool _) rfl)) _ (.inl rfl)
  show Value.bool _ = Value.bool _; simp [wishOk, h2, h3, h4, h5]
 refine TO.guard_true (s := 21) rfl rfl ?_
 refine rdx (rd_fieldAddr Tryz.field30_4 rfl) ?_
 refine TO.guard_true (s := 21) rfl rfl ?_
 refine rdx (rd_load (v := .int _ _) Tryz.one3 rfl (Has.own 0 rfl) rfl) ?_
 refine TO.guard_true (s := 21) rfl rfl ?_
 refine TO.fn Tryz.enters73 (c_dialtoneref15_in _ _ _) rfl Reads0 ?_
 refine rdx (rd_pick_true (v := .bool _) rfl rfl) ?_
 refine rdx (rd_move (v := .bool _) rfl) ?_
 refine TO.decide_ft (s := 26) rfl (fun h6 => ?_) (fun h6 => ?_)
 ·refine TO.guard_false (s := 26) (b' := false) rfl rfl nofun ?_
  refine TO.guard_false (s := 26) (b' := false) rfl rfl nofun ?_
  refine TO.guard_false (s := 26) (b' := false) rfl rfl nofun ?_
  refine rdx (rd_pick_false (v := .bool _) rfl rfl) ?_
  refine rdx (rd_assign (v := .bool _) rfl) ?_
  refine TO.nil (TQ.then_normal (T.ret ?_))
  refine TQ.value ?_ (res1 Tryz.results55 (Res.tmp (v := .bool _) rfl)) _ (.inl rfl)
  show Value.bool _ = Value.bool _; simp [wishOk, h2, h3, h4, h5, h6]
 refine TO.guard_true (s := 26) rfl rfl ?_
 refine rdx (rd_fieldAddr Tryz.field30_5 rfl) ?_
 refine TO.guard_true (s := 26) rfl rfl ?_
 refine rdx (rd_load_agg (cs := #[.int _ _, .int _ _]) Tryz.agg28 rfl (Has.own 0 rfl) rfl rfl) ?_
 refine TO.guard_true (s := 26) rfl rfl ?_
 refine TO.fn Tryz.enters90 (c_ref15_Spell _ _) rfl Reads0 ?_
 refine rdx (rd_pick_true (v := .bool _) rfl rfl) ?_
 refine rdx (rd_assign (v := .bool _) rfl) ?_
 refine TO.nil (TQ.then_normal (T.ret ?_))
 refine TQ.value ?_ (res1 Tryz.results55 (Res.tmp (v := .bool _) rfl)) _ (.inl rfl)
 show Value.bool _ = Value.bool _; simp [wishOk, h2, h3, h4, h5, h6]
theorem c_ref15_proxy (p : Proxy) : Cv Tryz.prog 56 #[proxyV p] [] (.bool (proxyOk p)) := by
 refine Ctr.intro Tryz.func56 rfl Tryz.ntmps56 (Nat.le_of_ble_eq_true rfl) fun S0 w0 => ?_
 refine T.seq (T.region ?_)
 refine TO.box (v := .agg #[.int _ _, .int _ _, .int _ _, .int _ _, .int _ _, .int _ _, .string _]) rfl (fun b1 => ?_)
 refine rdx (rd_assign (v := .bool _) rfl) ?_
 refine TO.nil (TQ.then_normal (T.seq (T.region ?_)))
 refine rdx (rd_fieldAddr Tryz.field40_0 rfl) ?_
 refine rdx (rd_load (v := .int _ _) Tryz.one3 rfl (Has.own 0 rfl) rfl) ?_
 refine TO.fn Tryz.enters73 (c_dialtoneref15_in _ _ _) rfl Reads0 ?_
 refine rdx (rd_move (v := .bool _) rfl) ?_
 refine TO.decide_ft (s := 6) rfl (fun h2 => ?_) (fun h2 => ?_)
 ·refine TO.guard_false (s := 6) (b' := false) rfl rfl nofun ?_
  refine TO.guard_false (s := 6) (b' := false) rfl rfl nofun ?_
  refine TO.guard_false (s := 6) (b' := false) rfl rfl nofun ?_
  refine rdx (rd_pick_false (v := .bool _) rfl rfl) ?_
  refine rdx (rd_move (v := .bool _) rfl) ?_
  refine TO.guard_false (s := 11) (b' := false) rfl rfl nofun ?_
  refine TO.guard_false (s := 11) (b' := false) rfl rfl nofun ?_
  refine TO.guard_false (s := 11) (b' := false) rfl rfl nofun ?_
  refine TO.guard_false (s := 11) (b' := false) rfl rfl nofun ?_
  refine TO.guard_false (s := 11) (b' := false) rfl rfl nofun ?_
  refine rdx (rd_pick_false (v := .bool _) rfl rfl) ?_
  refine rdx (rd_move (v := .bool _) rfl) ?_
  refine TO.guard_false (s := 18) (b' := false) rfl rfl nofun ?_
  refine TO.guard_false (s := 18) (b' := false) rfl rfl nofun ?_
  refine TO.guard_false (s := 18) (b' := false) rfl rfl nofun ?_
  refine rdx (rd_pick_false (v := .bool _) rfl rfl) ?_
  refine rdx (rd_move (v := .bool _) rfl) ?_
  refine TO.guard_false (s := 23) (b' := false) rfl rfl nofun ?_
  refine TO.guard_false (s := 23) (b' := false) rfl rfl nofun ?_
  refine TO.guard_false (s := 23) (b' := false) rfl rfl nofun ?_
  refine rdx (rd_pick_false (v := .bool _) rfl rfl) ?_
  refine rdx (rd_assign (v := .bool _) rfl) ?_
  refine TO.nil (TQ.then_normal (T.ret ?_))
  refine TQ.value ?_ (res1 Tryz.results56 (Res.tmp (v := .bool _) rfl)) _ (.inl rfl)
  show Value.bool _ = Value.bool _; simp [proxyOk, h2]
 refine TO.guard_true (s := 6) rfl rfl ?_
 refine rdx (rd_fieldAddr Tryz.field40_1 rfl) ?_
 refine TO.guard_true (s := 6) rfl rfl ?_
 refine rdx (rd_load (v := .int _ _) Tryz.one3 rfl (Has.own 0 rfl) rfl) ?_
 refine TO.guard_true (s := 6) rfl rfl ?_
 refine TO.fn Tryz.enters73 (c_dialtoneref15_in _ _ _) rfl Reads0 ?_
 refine rdx (rd_pick_true (v := .bool _) rfl rfl) ?_
 refine rdx (rd_move (v := .bool _) rfl) ?_
 refine TO.decide_ft (s := 11) rfl (fun h3 => ?_) (fun h3 => ?_)
 ·refine TO.guard_false (s := 11) (b' := false) rfl rfl nofun ?_
  refine TO.guard_false (s := 11) (b' := false) rfl rfl nofun ?_
  refine TO.guard_false (s := 11) (b' := false) rfl rfl nofun ?_
  refine TO.guard_false (s := 11) (b' := false) rfl rfl nofun ?_
  refine TO.guard_false (s := 11) (b' := false) rfl rfl nofun ?_
  refine rdx (rd_pick_false (v := .bool _) rfl rfl) ?_
  refine rdx (rd_move (v := .bool _) rfl) ?_
  refine TO.guard_false (s := 18) (b' := false) rfl rfl nofun ?_
  refine TO.guard_false (s := 18) (b' := false) rfl rfl nofun ?_
  refine TO.guard_false (s := 18) (b' := false) rfl rfl nofun ?_
  refine rdx (rd_pick_false (v := .bool _) rfl rfl) ?_
  refine rdx (rd_move (v := .bool _) rfl) ?_
  refine TO.guard_false (s := 23) (b' := false) rfl rfl nofun ?_
  refine TO.guard_false (s := 23) (b' := false) rfl rfl nofun ?_
  refine TO.guard_false (s := 23) (b' := false) rfl rfl nofun ?_
  refine rdx (rd_pick_false (v := .bool _) rfl rfl) ?_
  refine rdx (rd_assign (v := .bool _) rfl) ?_
  refine TO.nil (TQ.then_normal (T.ret ?_))
  refine TQ.value ?_ (res1 Tryz.results56 (Res.tmp (v := .bool _) rfl)) _ (.inl rfl)
  show Value.bool _ = Value.bool _; simp [proxyOk, h2, h3]
 refine TO.guard_true (s := 11) rfl rfl ?_
 refine rdx (rd_fieldAddr Tryz.field40_0 rfl) ?_
 refine TO.guard_true (s := 11) rfl rfl ?_
 refine rdx (rd_load (v := .int _ _) Tryz.one3 rfl (Has.own 0 rfl) rfl) ?_
 refine TO.guard_true (s := 11) rfl rfl ?_
 refine rdx (rd_fieldAddr Tryz.field40_1 rfl) ?_
 refine TO.guard_true (s := 11) rfl rfl ?_
 refine rdx (rd_load (v := .int _ _) Tryz.one3 rfl (Has.own 0 rfl) rfl) ?_
 refine TO.guard_true (s := 11) rfl rfl ?_
 refine rdx (rd_neq rfl rfl) ?_
 refine rdx (rd_pick_true (v := .bool _) rfl rfl) ?_
 refine rdx (rd_move (v := .bool _) rfl) ?_
 refine TO.decide_ft (s := 18) rfl (fun h4 => ?_) (fun h4 => ?_)
 ·refine TO.guard_false (s := 18) (b' := false) rfl rfl nofun ?_
  refine TO.guard_false (s := 18) (b' := false) rfl rfl nofun ?_
  refine TO.guard_false (s := 18) (b' := false) rfl rfl nofun ?_
  refine rdx (rd_pick_false (v := .bool _) rfl rfl) ?_
  refine rdx (rd_move (v := .bool _) rfl) ?_
  refine TO.guard_false (s := 23) (b' := false) rfl rfl nofun ?_
  refine TO.guard_false (s := 23) (b' := false) rfl rfl nofun ?_
  refine TO.guard_false (s := 23) (b' := false) rfl rfl nofun ?_
  refine rdx (rd_pick_false (v := .bool _) rfl rfl) ?_
  refine rdx (rd_assign (v := .bool _) rfl) ?_
  refine TO.nil (TQ.then_normal (T.ret ?_))
  refine TQ.value ?_ (res1 Tryz.results56 (Res.tmp (v := .bool _) rfl)) _ (.inl rfl)
  show Value.bool _ = Value.bool _; simp [proxyOk, h2, h3, h4]
 refine TO.guard_true (s := 18) rfl rfl ?_
 refine rdx (rd_fieldAddr Tryz.field40_2 rfl) ?_
 refine TO.guard_true (s := 18) rfl rfl ?_
 refine rdx (rd_load_agg (cs := #[.int _ _, .int _ _]) Tryz.agg27 rfl (Has.own 0 rfl) rfl rfl) ?_
 refine TO.guard_true (s := 18) rfl rfl ?_
 refine TO.fn Tryz.enters89 (c_ref15_Range _ _) rfl Reads0 ?_
 refine rdx (rd_pick_true (v := .bool _) rfl rfl) ?_
 refine rdx (rd_move (v := .bool _) rfl) ?_
 refine TO.decide_ft (s := 23) rfl (fun h5 => ?_) (fun h5 => ?_)
 ·refine TO.guard_false (s := 23) (b' := false) rfl rfl nofun ?_
  refine TO.guard_false (s := 23) (b' := false) rfl rfl nofun ?_
  refine TO.guard_false (s := 23) (b' := false) rfl rfl nofun ?_
  refine rdx (rd_pick_false (v := .bool _) rfl rfl) ?_
  refine rdx (rd_assign (v := .bool _) rfl) ?_
  refine TO.nil (TQ.then_normal (T.ret ?_))
  refine TQ.value ?_ (res1 Tryz.results56 (Res.tmp (v := .bool _) rfl)) _ (.inl rfl)
  show Value.bool _ = Value.bool _; simp [proxyOk, h2, h3, h4, h5]
 refine TO.guard_true (s := 23) rfl rfl ?_
 refine rdx (rd_fieldAddr Tryz.field40_3 rfl) ?_
 refine TO.guard_true (s := 23) rfl rfl ?_
 refine rdx (rd_load_agg (cs := #[.int _ _, .int _ _]) Tryz.agg28 rfl (Has.own 0 rfl) rfl rfl) ?_
 refine TO.guard_true (s := 23) rfl rfl ?_
 refine TO.fn Tryz.enters90 (c_ref15_Spell _ _) rfl Reads0 ?_
 refine rdx (rd_pick_true (v := .bool _) rfl rfl) ?_
 refine rdx (rd_assign (v := .bool _) rfl) ?_
 refine TO.nil (TQ.then_normal (T.ret ?_))
 refine TQ.value ?_ (res1 Tryz.results56 (Res.tmp (v := .bool _) rfl)) _ (.inl rfl)
 show Value.bool _ = Value.bool _; simp [proxyOk, h2, h3, h4, h5]
end Go.Proofs
end
section
set_option linter.unusedVariables false
set_option linter.unusedSimpArgs false
set_option maxRecDepth 100000
set_option maxHeartbeats 800000
namespace Go.Proofs
open Go.TL
attribute [local irreducible] Go.TL.T Go.TL.TO Go.TL.TQ
theorem c_ref01_zigzag (n : Int) (h1 : -4611686018427387903 ≤ n) (h2 : n ≤ 4611686018427387903) : Cv Tryz.prog 102 #[.int .i64 n] [] (.int .u64 (zig n : Nat)) := by
 refine Ctr.intro Tryz.func102 rfl Tryz.ntmps102 (Nat.le_of_ble_eq_true rfl) fun S0 w0 => ?_
 refine T.seq (T.region ?_)
 refine rdx (rd_assign (v := .int _ _) rfl) ?_
 refine TO.nil (TQ.then_normal (T.seq (T.seq (T.region ?_))))
 refine rdx (rd_move (v := .int _ _) rfl) ?_
 refine rdx (rd_lss rfl rfl) ?_
 refine TO.nil (TQ.then_normal ?_)
 refine T.cond_ft rfl (fun h1 => ?_) (fun h1 => ?_)
 ·try simp only [nrm] at h1
  refine T.skip (TQ.then_normal (T.seq (T.region ?_)))
  refine rdx (rd_move (v := .int _ _) rfl) ?_
  refine rdx (rd_convert Tryz.isome3 Tryz.under146 rfl (wu64 (by omega) (by omega))) ?_
  refine rdx (rd_mul rfl rfl (wu64 (by omega) (by omega))) ?_
  refine rdx (rd_assign (v := .int _ _) rfl) ?_
  refine TO.nil (TQ.then_normal (T.ret ?_))
  refine TQ.value ?_ (res1 Tryz.results102 (Res.tmp (v := .int _ _) rfl)) _ (.inl rfl)
  congr 1
  unfold zig
  split <;> omega
 try simp only [nrm] at h1
 refine T.seq (T.region ?_)
 refine rdx (rd_move (v := .int _ _) rfl) ?_
 refine rdx (rd_neg rfl (w64 (by omega) (by omega))) ?_
 refine rdx (rd_convert Tryz.isome3 Tryz.under146 rfl (wu64 (by omega) (by omega))) ?_
 refine rdx (rd_mul rfl rfl (wu64 (by omega) (by omega))) ?_
 refine rdx (rd_sub rfl rfl (wu64 (by omega) (by omega))) ?_
 refine rdx (rd_assign (v := .int _ _) rfl) ?_
 refine TO.nil (TQ.then_normal (T.ret (TQ.then_ret ?_)))
 refine TQ.value ?_ (res1 Tryz.results102 (Res.tmp (v := .int _ _) rfl)) _ (.inl rfl)
 congr 1
 unfold zig
 split <;> omega
theorem c_ref01_PutInt (n : Int) : Cv Tryz.prog 94 #[.int .i64 n] [] (.tuple #[.string (str (putInt n)), .int .i64 (putErr n)]) := by
 refine Ctr.intro Tryz.func94 rfl Tryz.ntmps94 (Nat.le_of_ble_eq_true rfl) fun S0 w0 => ?_
 refine T.seq (T.region ?_)
 refine rdx (rd_assign (v := .string _) rfl) ?_
 refine rdx (rd_assign (v := .int _ _) rfl) ?_
 refine TO.nil (TQ.then_normal (T.seq (T.seq (T.region ?_))))
 refine rdx (rd_move (v := .int _ _) rfl) ?_
 refine rdx (rd_lss rfl rfl) ?_
 refine rdx (rd_move (v := .bool _) rfl) ?_
 refine TO.decide (s := 8) rfl (fun h1 => ?_) (fun h1 => ?_)
 ·try simp only [nrm] at h1
  refine TO.guard_false (s := 8) (b' := true) rfl rfl nofun ?_
  refine TO.guard_false (s := 8) (b' := true) rfl rfl nofun ?_
  refine rdx (rd_pick_true (v := .bool _) rfl rfl) ?_
  refine TO.nil (TQ.then_normal ?_)
  refine T.cond_true rfl ?_
  refine T.seq (T.region ?_)
  refine rdx (rd_assign (v := .string _) rfl) ?_
  refine rdx (rd_assign (v := .int _ _) rfl) ?_
  refine TO.nil (TQ.then_normal (T.ret (TQ.then_ret ?_)))
  refine TQ.value ?_ (res2 Tryz.results94 (Res.tmp (v := .string _) rfl) (Res.tmp (v := .int _ _) rfl)) _ (.inl rfl)
  rw [putInt, putErr, if_neg (by omega), if_neg (by omega)]; rfl
 try simp only [nrm] at h1
 refine TO.guard_true (s := 8) rfl rfl ?_
 refine rdx (rd_move (v := .int _ _) rfl) ?_
 refine TO.guard_true (s := 8) rfl rfl ?_
 refine rdx (rd_gtr rfl rfl) ?_
 refine rdx (rd_pick_false (v := .bool _) rfl rfl) ?_
 refine TO.nil (TQ.then_normal ?_)
 refine T.cond rfl (fun h2 => ?_) (fun h2 => ?_)
 ·try simp only [nrm] at h2
  refine T.seq (T.region ?_)
  refine rdx (rd_assign (v := .string _) rfl) ?_
  refine rdx (rd_assign (v := .int _ _) rfl) ?_
  refine TO.nil (TQ.then_normal (T.ret (TQ.then_ret ?_)))
  refine TQ.value ?_ (res2 Tryz.results94 (Res.tmp (v := .string _) rfl) (Res.tmp (v := .int _ _) rfl)) _ (.inl rfl)
  rw [putInt, putErr, if_neg (by omega), if_neg (by omega)]; rfl
 try simp only [nrm] at h2
 refine T.skip (TQ.then_normal (T.seq (T.region ?_)))
 refine rdx (rd_move (v := .int _ _) rfl) ?_
 refine TO.fn Tryz.enters102 (c_ref01_zigzag _ (by omega) (by omega)) rfl Reads0 ?_
 refine rdx (rd_assign (v := .int _ _) rfl) ?_
 refine TO.nil (TQ.then_normal (T.seq (T.region ?_)))
 refine rdx (rd_assign (v := .slice none 0 0) rfl) ?_
 refine TO.newrow 5 1 ?_
 refine TO.nil (TQ.then_normal (T.seq (T.block ?_)))
 refine T.loop6 [] (fun (A : Option Addr) (cap : Nat) (m : Nat) (l : Bytes) (z : Nat) (k : Nat) => [(4, .int .u64 (z : Nat)), (5, .slice A m cap)]) (fun (A : Option Addr) (cap : Nat) (m : Nat) (l : Bytes) (z : Nat) (k : Nat) => [row 5 1 A m cap (bytesC l)]) (fun (A : Option Addr) (cap : Nat) (m : Nat) (l : Bytes) (z : Nat) (k : Nat) => l ++ vintF (k + 1) z = vint (zig n) ∧ z < 128 ^ (k + 1) ∧ z < 9223372036854775807 ∧ m + k = 9) (fun (A : Option Addr) (cap : Nat) (m : Nat) (l : Bytes) (z : Nat) (k : Nat) => k) (none) (0) (0) ([]) (zig n) (9) (⟨rfl, by have := zig_lt (n := n) (by omega) (by omega); omega, zig_lt (by omega) (by omega), rfl⟩) (And.intro (rfl) (And.intro (rfl) (trivial))) (fun _ _ h => h) fun A cap m l z k g0 hx0 => ?_
 obtain ⟨hl, hz, hz2, hk⟩ := hx0
 refine T.seq (T.seq (T.region ?_))
 refine rdx (rd_move (v := .int _ _) rfl) ?_
 refine rdx (rd_geq rfl rfl) ?_
 refine TO.nil (TQ.then_normal ?_)
 refine T.cond_ft rfl (fun h4 => ?_) (fun h4 => ?_)
 ·try simp only [nrm] at h4
  refine T.exit (TQ.then_exit (TQ.then_exit (TQ.block_out (TQ.then_normal (T.seq (T.region ?_))))))
  refine rdx (rd_move (v := .slice _ _ _) rfl) ?_
  refine rdx (rd_move (v := .int _ _) rfl) ?_
  refine rdx (rd_convert Tryz.isome146 Tryz.under5 rfl (wrap_u8 _)) ?_
  refine TO.buildS (cs := [.int _ _]) Tryz.under62 Tryz.size5 Tryz.zero5 (Nat.le_of_ble_eq_true rfl) rfl (fun b9 => ?_)
  refine TO.front1 ?_
  refine TO.app Tryz.trow5 Tryz.under62 (.inl ⟨_, Tryz.under62⟩) rfl rfl (Src.own1 1 rfl rfl) rfl rfl (by omega) (fun A10 c11 hc12 => ?_)
  refine TO.row_eq (cs' := bytesC (l ++ [UInt8.ofNat z])) rfl (by rw [bytesC_append]; simp [bytesC, UInt8.toNat_ofNat']) ?_
  refine rdx (rd_row_str Tryz.under62 Tryz.under5 Tryz.under9 rfl (Has.own 0 rfl)) ?_
  refine rdx (rd_assign (v := .string _) rfl) ?_
  refine rdx (rd_assign (v := .int _ _) rfl) ?_
  refine TO.nil (TQ.then_normal (T.ret ?_))
  refine TQ.value ?_ (res2 Tryz.results94 (Res.tmp (v := .string _) rfl) (Res.tmp (v := .int _ _) rfl)) _ (.inl rfl)
  rw [putInt, putErr, if_pos (by omega), if_pos (by omega), ← hl, vintF_end (by omega)]
 try simp only [nrm] at h4
 refine T.skip (TQ.then_normal (T.block (T.seq (T.region ?_))))
 refine rdx (rd_move (v := .slice _ _ _) rfl) ?_
 refine rdx (rd_move (v := .int _ _) rfl) ?_
 refine rdx (rd_remn (m := 128) rfl rfl rfl (by decide)) ?_
 refine rdx (rd_add rfl rfl (wu64 (by omega) (by omega))) ?_
 refine rdx (rd_convert Tryz.isome146 Tryz.under5 rfl (wrap_u8 _)) ?_
 refine TO.buildS (cs := [.int _ _]) Tryz.under62 Tryz.size5 Tryz.zero5 (Nat.le_of_ble_eq_true rfl) rfl (fun b5 => ?_)
 refine TO.front1 ?_
 refine TO.app Tryz.trow5 Tryz.under62 (.inl ⟨_, Tryz.under62⟩) rfl rfl (Src.own1 1 rfl rfl) rfl rfl (by omega) (fun A6 c7 hc8 => ?_)
 refine TO.row_eq (cs' := bytesC (l ++ [UInt8.ofNat (z % 128 + 128)])) rfl (by rw [bytesC_append]; simp [bytesC, UInt8.toNat_ofNat']) ?_
 refine rdx (rd_assign (v := .slice _ _ _) rfl) ?_
 refine TO.nil (TQ.then_normal (T.region ?_))
 refine rdx (rd_move (v := .int _ _) rfl) ?_
 refine rdx (rd_quo64 (m := 128) rfl rfl rfl (by decide) (by omega)) ?_
 refine rdx (rd_assign (v := .int _ _) rfl) ?_
 refine TO.nil (TQ.block_normal ?_)
 refine TQ.againk (A6, c7, m + 1, l ++ [UInt8.ofNat (z % 128 + 128)], z / 128, k - 1) ?_ ?_ (And.intro (rfl) (And.intro (rfl) (trivial))) (trivial) (fun _ _ h => h.sel (js := [0]) (by decide))
 ·obtain ⟨j, hj, hj0⟩ := pow128_pos hz (by omega)
  obtain rfl : k = j := by omega
  have e : k = (k - 1) + 1 := by omega
  rw [vintF_go (by omega)] at hl
  refine ⟨?_, ?_, by dsimp only; omega, by dsimp only; omega⟩
  ·dsimp only
   rw [← e, ← hl]; simp
  ·dsimp only
   rw [← e]; exact pow128 hz
 ·obtain ⟨j, hj, hj0⟩ := pow128_pos hz (by omega)
  dsimp only; omega
end Go.Proofs
end
section
set_option linter.unusedVariables false
set_option linter.unusedSimpArgs false
set_option maxRecDepth 100000
set_option maxHeartbeats 800000
namespace Go.Proofs
open Go.TL
attribute [local irreducible] Go.TL.T Go.TL.TO Go.TL.TQ
theorem c_wire_Int (s : Bytes) (a : Int) (hs : s.length ≤ 4611686018427387903) : Cv Tryz.prog 95 #[.string (str s), .int .i64 a] [] (.tuple #[.int .i64 (unInt s a).1, .int .i64 (unInt s a).2.1, .int .i64 (unInt s a).2.2]) := by
 refine Ctr.intro Tryz.func95 rfl Tryz.ntmps95 (Nat.le_of_ble_eq_true rfl) fun S0 w0 => ?_
 refine T.seq (T.region ?_)
 refine rdx (rd_assign (v := .int _ _) rfl) ?_
 refine rdx (rd_assign (v := .int _ _) rfl) ?_
 refine rdx (rd_assign (v := .int _ _) rfl) ?_
 refine TO.nil (TQ.then_normal (T.seq (T.seq (T.region ?_))))
 refine rdx (rd_move (v := .int _ _) rfl) ?_
 refine rdx (rd_lss rfl rfl) ?_
 refine rdx (rd_move (v := .bool _) rfl) ?_
 refine TO.decide (s := 13) rfl (fun h1 => ?_) (fun h1 => ?_)
 ·try simp only [nrm] at h1
  refine TO.guard_false (s := 13) (b' := true) rfl rfl nofun ?_
  refine TO.guard_false (s := 13) (b' := true) rfl rfl nofun ?_
  refine TO.guard_false (s := 13) (b' := true) rfl rfl nofun ?_
  refine TO.guard_false (s := 13) (b' := true) rfl rfl nofun ?_
  refine rdx (rd_pick_true (v := .bool _) rfl rfl) ?_
  refine TO.nil (TQ.then_normal ?_)
  refine T.cond_true rfl ?_
  refine T.seq (T.region ?_)
  refine rdx (rd_assign (v := .int _ _) rfl) ?_
  refine rdx (rd_assign (v := .int _ _) rfl) ?_
  refine rdx (rd_assign (v := .int _ _) rfl) ?_
  refine TO.nil (TQ.then_normal (T.ret (TQ.then_ret ?_)))
  refine TQ.value ?_ (res3 Tryz.results95 (Res.tmp (v := .int _ _) rfl) (Res.tmp (v := .int _ _) rfl) (Res.tmp (v := .int _ _) rfl)) _ (.inl rfl)
  rw [unInt_out (by omega)]
 try simp only [nrm] at h1
 refine TO.guard_true (s := 13) rfl rfl ?_
 refine rdx (rd_move (v := .int _ _) rfl) ?_
 refine TO.guard_true (s := 13) rfl rfl ?_
 refine rdx (rd_move (v := .string _) rfl) ?_
 refine TO.guard_true (s := 13) rfl rfl ?_
 refine rdx (rd_lens' Tryz.under9 rfl) ?_
 refine TO.guard_true (s := 13) rfl rfl ?_
 refine rdx (rd_gtr rfl rfl) ?_
 refine rdx (rd_pick_false (v := .bool _) rfl rfl) ?_
 refine TO.nil (TQ.then_normal ?_)
 refine T.cond rfl (fun h2 => ?_) (fun h2 => ?_)
 ·try simp only [nrm] at h2
  refine T.seq (T.region ?_)
  refine rdx (rd_assign (v := .int _ _) rfl) ?_
  refine rdx (rd_assign (v := .int _ _) rfl) ?_
  refine rdx (rd_assign (v := .int _ _) rfl) ?_
  refine TO.nil (TQ.then_normal (T.ret (TQ.then_ret ?_)))
  refine TQ.value ?_ (res3 Tryz.results95 (Res.tmp (v := .int _ _) rfl) (Res.tmp (v := .int _ _) rfl) (Res.tmp (v := .int _ _) rfl)) _ (.inl rfl)
  rw [unInt_out (by omega)]
 try simp only [nrm] at h2
 refine T.skip (TQ.then_normal (T.seq (T.region ?_)))
 refine rdx (rd_assign (v := .int _ _) rfl) ?_
 refine TO.nil (TQ.then_normal (T.seq (T.seq (T.region ?_))))
 refine rdx (rd_move (v := .int _ _) rfl) ?_
 refine TO.nil (TQ.then_normal (T.block ?_))
 refine T.loop3 [0, 1] (fun (i : Nat) (k : Nat) (z : Nat) => [(7, .int .u64 (z : Nat)), (19, .int .i64 (i : Nat))]) (fun (i : Nat) (k : Nat) (z : Nat) => []) (fun (i : Nat) (k : Nat) (z : Nat) => RdInv s a.toNat i k z ∧ i + k = 9 ∧ z < 128 ^ i) (fun (i : Nat) (k : Nat) (z : Nat) => k) (0) (9) (0) (⟨RdInv.start _ _, rfl, by decide⟩) (And.intro (rfl) (And.intro (rfl) (trivial))) (fun _ _ h => h) fun i k z g0 hx0 => ?_
 obtain ⟨hI, hik, hz⟩ := hx0
 refine T.seq (T.region ?_)
 refine rdx (rd_lss rfl rfl) ?_
 refine TO.nil (TQ.then_normal (T.seq ?_))
 refine T.cond_ft rfl (fun h3 => ?_) (fun h3 => ?_)
 ·try simp only [nrm] at h3
  refine T.exit (TQ.then_exit (TQ.then_exit (TQ.block_out (TQ.then_normal (T.seq (T.region ?_))))))
  refine rdx (rd_assign (v := .int _ _) rfl) ?_
  refine rdx (rd_assign (v := .int _ _) rfl) ?_
  refine rdx (rd_assign (v := .int _ _) rfl) ?_
  refine TO.nil (TQ.then_normal (T.ret ?_))
  refine TQ.value ?_ (res3 Tryz.results95 (Res.tmp (v := .int _ _) rfl) (Res.tmp (v := .int _ _) rfl) (Res.tmp (v := .int _ _) rfl)) _ (.inl rfl)
  rw [unInt_none (by omega) (by omega) (hI.out (by omega))]
 try simp only [nrm] at h3
 refine T.skip (TQ.then_normal (T.seq (T.block (T.seq (T.region ?_)))))
 refine rdx (rd_move (v := .int _ _) rfl) ?_
 refine rdx (rd_assign (v := .int _ _) rfl) ?_
 refine TO.nil (TQ.then_normal (T.seq (T.seq (T.region ?_))))
 refine rdx (rd_move (v := .int _ _) rfl) ?_
 refine rdx (rd_move (v := .int _ _) rfl) ?_
 refine rdx (rd_add rfl rfl (w64 (by omega) (by omega))) ?_
 refine rdx (rd_move (v := .string _) rfl) ?_
 refine rdx (rd_lens' Tryz.under9 rfl) ?_
 refine rdx (rd_geq rfl rfl) ?_
 refine TO.nil (TQ.then_normal ?_)
 refine T.cond rfl (fun h4 => ?_) (fun h4 => ?_)
 ·try simp only [nrm] at h4
  refine T.exit (TQ.then_exit ?_)
  refine TQ.block_past (by decide) ?_
  refine TQ.then_exit (TQ.then_exit (TQ.block_out (TQ.then_normal (T.seq (T.region ?_)))))
  refine rdx (rd_assign (v := .int _ _) rfl) ?_
  refine rdx (rd_assign (v := .int _ _) rfl) ?_
  refine rdx (rd_assign (v := .int _ _) rfl) ?_
  refine TO.nil (TQ.then_normal (T.ret ?_))
  refine TQ.value ?_ (res3 Tryz.results95 (Res.tmp (v := .int _ _) rfl) (Res.tmp (v := .int _ _) rfl) (Res.tmp (v := .int _ _) rfl)) _ (.inl rfl)
  rw [unInt_none (by omega) (by omega) (hI.out (by omega))]
 try simp only [nrm] at h4
 refine T.skip (TQ.then_normal (T.seq (T.region ?_)))
 refine rdx (rd_move (v := .string _) rfl) ?_
 refine rdx (rd_move (v := .int _ _) rfl) ?_
 refine rdx (rd_move (v := .int _ _) rfl) ?_
 refine rdx (rd_add rfl rfl (w64 (by omega) (by omega))) ?_
 refine rdx (rd_idxs (j := a.toNat + i) Tryz.under9 rfl rfl (by omega) (by omega)) ?_
 refine rdx (rd_assign (v := .int _ _) rfl) ?_
 refine TO.nil (TQ.then_normal (T.seq (T.region ?_)))
 refine rdx (rd_move (v := .int _ _) rfl) ?_
 refine rdx (rd_move (v := .int _ _) rfl) ?_
 refine rdx (rd_and127b rfl rfl rfl) ?_
 refine rdx (rd_conv8_64n Tryz.isome5 Tryz.under146 rfl (by omega)) ?_
 refine rdx (rd_move (v := .int _ _) rfl) ?_
 refine rdx (rd_mul rfl rfl (w64 (by omega) (by omega))) ?_
 refine rdx (rd_shl rfl rfl (by omega) (shl7 (Nat.mod_lt _ (by decide)) (by omega))) ?_
 refine rdx (rd_or64 (c := (s[a.toNat + i]'(by omega)).toNat % 128) (i := i) rfl rfl hz (Nat.mod_lt _ (by decide)) (by omega)) ?_
 have hZ : z + (s[a.toNat + i]'(by omega)).toNat % 128 * 128 ^ i < 9223372036854775808 := Nat.lt_of_lt_of_le (add128 hz (Nat.mod_lt _ (by omega))) (by have := pow128_le (i := i + 1) (by omega); omega)
 refine rdx (rd_assign (v := .int _ _) rfl) ?_
 refine TO.nil (TQ.then_normal (T.seq (T.seq (T.region ?_))))
 refine rdx (rd_move (v := .int _ _) rfl) ?_
 refine rdx (rd_geq rfl rfl) ?_
 refine TO.nil (TQ.then_normal ?_)
 refine T.cond rfl (fun h5 => ?_) (fun h5 => ?_)
 ·try simp only [nrm] at h5
  refine T.exit (TQ.then_exit (TQ.block_out (TQ.then_normal (T.region ?_))))
  refine rdx (rd_add rfl rfl (w64 (by omega) (by omega))) ?_
  refine rdx (rd_move (v := .int _ _) rfl) ?_
  refine TO.nil ?_
  refine TQ.againk (i + 1, k - 1, z + (s[a.toNat + i]'(by omega)).toNat % 128 * 128 ^ i) ?_ ?_ (And.intro (rfl) (And.intro (rfl) (trivial))) (And.intro (rfl) (And.intro (rfl) (trivial))) (fun _ _ h => h)
  ·obtain ⟨k, rfl⟩ : ∃ j, k = j + 1 := ⟨k - 1, by omega⟩
   exact ⟨by simpa using hI.next (by omega) (by omega), by dsimp only; omega, add128 hz (Nat.mod_lt _ (by omega))⟩
  ·dsimp only; omega
 try simp only [nrm] at h5
 refine T.skip (TQ.then_normal (T.seq (T.region ?_)))
 refine rdx (rd_move (v := .int _ _) rfl) ?_
 refine rdx (rd_shr1 rfl rfl rfl) ?_
 refine rdx (rd_convert Tryz.isome146 Tryz.under3 rfl (w64 (by omega) (by omega))) ?_
 refine rdx (rd_move (v := .int _ _) rfl) ?_
 refine rdx (rd_and1 rfl rfl rfl (by omega)) ?_
 refine rdx (rd_convert Tryz.isome146 Tryz.under3 rfl (w64 (by omega) (by omega))) ?_
 refine rdx (rd_neg rfl (w64 (by omega) (by omega))) ?_
 refine rdx (rd_xor (s := unz (z + (s[a.toNat + i]'(by omega)).toNat % 128 * 128 ^ i)) rfl rfl (xor_unz (by omega))) ?_
 refine rdx (rd_assign (v := .int _ _) rfl) ?_
 refine TO.nil (TQ.then_normal (T.seq (T.seq (T.region ?_))))
 refine rdx (rd_move (v := .int _ _) rfl) ?_
 refine rdx (rd_eql rfl rfl) ?_
 refine rdx (rd_move (v := .bool _) rfl) ?_
 refine TO.decide_ft (s := 53) rfl (fun h6 => ?_) (fun h6 => ?_)
 ·try simp only [nrm] at h6
  refine TO.guard_false (s := 53) (b' := false) rfl rfl nofun ?_
  refine TO.guard_false (s := 53) (b' := false) rfl rfl nofun ?_
  refine rdx (rd_pick_false (v := .bool _) rfl rfl) ?_
  refine rdx (rd_move (v := .bool _) rfl) ?_
  refine TO.guard_true (s := 57) rfl rfl ?_
  refine rdx (rd_move (v := .int _ _) rfl) ?_
  refine TO.guard_true (s := 57) rfl rfl ?_
  refine rdx (rd_lss rfl rfl) ?_
  refine rdx (rd_pick_false (v := .bool _) rfl rfl) ?_
  refine TO.nil (TQ.then_normal ?_)
  refine T.cond rfl (fun h9 => ?_) (fun h9 => ?_)
  ·try simp only [nrm] at h9
   refine T.exit (TQ.then_exit ?_)
   refine TQ.block_past (by decide) ?_
   refine TQ.then_exit (TQ.then_exit (TQ.block_out (TQ.then_normal (T.seq (T.region ?_)))))
   refine rdx (rd_assign (v := .int _ _) rfl) ?_
   refine rdx (rd_assign (v := .int _ _) rfl) ?_
   refine rdx (rd_assign (v := .int _ _) rfl) ?_
   refine TO.nil (TQ.then_normal (T.ret ?_))
   refine TQ.value ?_ (res3 Tryz.results95 (Res.tmp (v := .int _ _) rfl) (Res.tmp (v := .int _ _) rfl) (Res.tmp (v := .int _ _) rfl)) _ (.inl rfl)
   obtain ⟨k, rfl⟩ : ∃ j, k = j + 1 := ⟨k - 1, by omega⟩
   have hr := (show rdv 9 (s.drop a.toNat) = some (z + (s[a.toNat + i]'(by omega)).toNat % 128 * 128 ^ i, i, _) from by rw [Nat.mod_eq_of_lt (by omega)]; exact hI.stop (by omega) (by omega))
   have hsm := rdv_small hr
   rw [unInt_bad (by omega) (by omega) hr (.inr (by omega))]
  try simp only [nrm] at h9
  refine T.skip (TQ.then_normal (T.seq (T.region ?_)))
  refine rdx (rd_move (v := .int _ _) rfl) ?_
  refine rdx (rd_move (v := .int _ _) rfl) ?_
  refine rdx (rd_move (v := .int _ _) rfl) ?_
  refine rdx (rd_add rfl rfl (w64 (by omega) (by omega))) ?_
  refine rdx (rd_add rfl rfl (w64 (by omega) (by omega))) ?_
  refine rdx (rd_assign (v := .int _ _) rfl) ?_
  refine rdx (rd_assign (v := .int _ _) rfl) ?_
  refine rdx (rd_assign (v := .int _ _) rfl) ?_
  refine TO.nil (TQ.then_normal (T.ret (TQ.block_ret (TQ.then_ret (TQ.then_ret (TQ.block_ret (TQ.then_ret ?_)))))))
  refine TQ.value ?_ (res3 Tryz.results95 (Res.tmp (v := .int _ _) rfl) (Res.tmp (v := .int _ _) rfl) (Res.tmp (v := .int _ _) rfl)) _ (.inl rfl)
  obtain ⟨k, rfl⟩ : ∃ j, k = j + 1 := ⟨k - 1, by omega⟩
  have hr := (show rdv 9 (s.drop a.toNat) = some (z + (s[a.toNat + i]'(by omega)).toNat % 128 * 128 ^ i, i, _) from by rw [Nat.mod_eq_of_lt (by omega)]; exact hI.stop (by omega) (by omega))
  have hsm := rdv_small hr
  rw [unInt_ok (by omega) (by omega) hr (by omega)]
 try simp only [nrm] at h6
 refine TO.guard_true (s := 53) rfl rfl ?_
 refine rdx (rd_move (v := .int _ _) rfl) ?_
 refine TO.guard_true (s := 53) rfl rfl ?_
 refine rdx (rd_gtr rfl rfl) ?_
 refine rdx (rd_pick_true (v := .bool _) rfl rfl) ?_
 refine rdx (rd_move (v := .bool _) rfl) ?_
 refine TO.decide (s := 57) rfl (fun h7 => ?_) (fun h7 => ?_)
 ·try simp only [nrm] at h7
  refine TO.guard_false (s := 57) (b' := true) rfl rfl nofun ?_
  refine TO.guard_false (s := 57) (b' := true) rfl rfl nofun ?_
  refine rdx (rd_pick_true (v := .bool _) rfl rfl) ?_
  refine TO.nil (TQ.then_normal ?_)
  refine T.cond_true rfl ?_
  refine T.exit (TQ.then_exit ?_)
  refine TQ.block_past (by decide) ?_
  refine TQ.then_exit (TQ.then_exit (TQ.block_out (TQ.then_normal (T.seq (T.region ?_)))))
  refine rdx (rd_assign (v := .int _ _) rfl) ?_
  refine rdx (rd_assign (v := .int _ _) rfl) ?_
  refine rdx (rd_assign (v := .int _ _) rfl) ?_
  refine TO.nil (TQ.then_normal (T.ret ?_))
  refine TQ.value ?_ (res3 Tryz.results95 (Res.tmp (v := .int _ _) rfl) (Res.tmp (v := .int _ _) rfl) (Res.tmp (v := .int _ _) rfl)) _ (.inl rfl)
  obtain ⟨k, rfl⟩ : ∃ j, k = j + 1 := ⟨k - 1, by omega⟩
  have hr := (show rdv 9 (s.drop a.toNat) = some (z + (s[a.toNat + i]'(by omega)).toNat % 128 * 128 ^ i, i, _) from by rw [Nat.mod_eq_of_lt (by omega)]; exact hI.stop (by omega) (by omega))
  have hsm := rdv_small hr
  rw [unInt_bad (by omega) (by omega) hr (.inl ⟨by omega, by omega⟩)]
 try simp only [nrm] at h7
 refine TO.guard_true (s := 57) rfl rfl ?_
 refine rdx (rd_move (v := .int _ _) rfl) ?_
 refine TO.guard_true (s := 57) rfl rfl ?_
 refine rdx (rd_lss rfl rfl) ?_
 refine rdx (rd_pick_false (v := .bool _) rfl rfl) ?_
 refine TO.nil (TQ.then_normal ?_)
 refine T.cond rfl (fun h8 => ?_) (fun h8 => ?_)
 ·try simp only [nrm] at h8
  refine T.exit (TQ.then_exit ?_)
  refine TQ.block_past (by decide) ?_
  refine TQ.then_exit (TQ.then_exit (TQ.block_out (TQ.then_normal (T.seq (T.region ?_)))))
  refine rdx (rd_assign (v := .int _ _) rfl) ?_
  refine rdx (rd_assign (v := .int _ _) rfl) ?_
  refine rdx (rd_assign (v := .int _ _) rfl) ?_
  refine TO.nil (TQ.then_normal (T.ret ?_))
  refine TQ.value ?_ (res3 Tryz.results95 (Res.tmp (v := .int _ _) rfl) (Res.tmp (v := .int _ _) rfl) (Res.tmp (v := .int _ _) rfl)) _ (.inl rfl)
  obtain ⟨k, rfl⟩ : ∃ j, k = j + 1 := ⟨k - 1, by omega⟩
  have hr := (show rdv 9 (s.drop a.toNat) = some (z + (s[a.toNat + i]'(by omega)).toNat % 128 * 128 ^ i, i, _) from by rw [Nat.mod_eq_of_lt (by omega)]; exact hI.stop (by omega) (by omega))
  have hsm := rdv_small hr
  rw [unInt_bad (by omega) (by omega) hr (.inr (by omega))]
 try simp only [nrm] at h8
 refine T.skip (TQ.then_normal (T.seq (T.region ?_)))
 refine rdx (rd_move (v := .int _ _) rfl) ?_
 refine rdx (rd_move (v := .int _ _) rfl) ?_
 refine rdx (rd_move (v := .int _ _) rfl) ?_
 refine rdx (rd_add rfl rfl (w64 (by omega) (by omega))) ?_
 refine rdx (rd_add rfl rfl (w64 (by omega) (by omega))) ?_
 refine rdx (rd_assign (v := .int _ _) rfl) ?_
 refine rdx (rd_assign (v := .int _ _) rfl) ?_
 refine rdx (rd_assign (v := .int _ _) rfl) ?_
 refine TO.nil (TQ.then_normal (T.ret (TQ.block_ret (TQ.then_ret (TQ.then_ret (TQ.block_ret (TQ.then_ret ?_)))))))
 refine TQ.value ?_ (res3 Tryz.results95 (Res.tmp (v := .int _ _) rfl) (Res.tmp (v := .int _ _) rfl) (Res.tmp (v := .int _ _) rfl)) _ (.inl rfl)
 obtain ⟨k, rfl⟩ : ∃ j, k = j + 1 := ⟨k - 1, by omega⟩
 have hr := (show rdv 9 (s.drop a.toNat) = some (z + (s[a.toNat + i]'(by omega)).toNat % 128 * 128 ^ i, i, _) from by rw [Nat.mod_eq_of_lt (by omega)]; exact hI.stop (by omega) (by omega))
 have hsm := rdv_small hr
 rw [unInt_ok (by omega) (by omega) hr (by omega)]
end Go.Proofs
end
section
set_option linter.unusedVariables false
set_option linter.unusedSimpArgs false
set_option maxRecDepth 100000
set_option maxHeartbeats 800000
namespace Go.Proofs
open Go.TL
attribute [local irreducible] Go.TL.T Go.TL.TO Go.TL.TQ
theorem c_rd_number (br : Nat) (s : Bytes) (a : Nat) (hs : s.length ≤ 1000000000000) : CtrX Tryz.prog 69 #[.pointer (some ⟨br, 0, none⟩)] [] [own br #[.string (str s), .int .i64 (a : Nat)] 115] (γ := Int × Nat) (fun x => rdN s a = some x) (fun x => .int .i64 x.1) (fun x => [own br #[.string (str s), .int .i64 (x.2 : Nat)] 115]) (rdN s a = none) (.iface 112 (.agg #[])) := by
 refine CtrX.intro Tryz.func69 rfl Tryz.ntmps69 (Nat.le_of_ble_eq_true rfl) fun S0 w0 => ?_
 refine T.seq (T.region ?_)
 refine rdx (rd_assign (v := .int _ _) rfl) ?_
 refine TO.nil (TQ.then_normal (T.seq ?_))
 refine T.drawq Tryz.mixes 15 [(7, 0), (8, 1), (9, 2), (10, 3), (11, 4), (12, 5), (13, 6), (14, 7), (15, 8), (6, 9), (16, 10), (17, 11), (18, 12), (3, 13), (4, 14)] [0, 1, 3, 7, 0, 16, 48, 112, 255, 511, 1023, 1023, 1023, 2047, 12287, 32767] (by kernel_rfl) ?_
 refine DQ.rd rfl rfl (fun _ => rd_move (v := .pointer _) rfl) ?_
 refine DQ.rd rfl rfl (fun _ => rd_nilCheck rfl) ?_
 refine DQ.rd rfl rfl (fun _ => rd_fieldAddr Tryz.field115_0 rfl) ?_
 refine DQ.rd rfl rfl (fun _ => rd_load (v := .string _) Tryz.one9 rfl (Has.own 0 rfl) rfl) ?_
 refine DQ.rd rfl rfl (fun _ => rd_move (v := .pointer _) rfl) ?_
 refine DQ.rd rfl rfl (fun _ => rd_nilCheck rfl) ?_
 refine DQ.rd rfl rfl (fun _ => rd_fieldAddr Tryz.field115_1 rfl) ?_
 refine DQ.rd rfl rfl (fun _ => rd_load (v := .int _ _) Tryz.one3 rfl (Has.own 0 rfl) rfl) ?_
 refine DQ.fn rfl Tryz.enters95 (c_wire_Int _ _ (by omega)) (fun _ => rfl) Reads0 ?_
 refine DQ.rd rfl rfl (fun _ => rd_move (v := .tuple _) rfl) ?_
 refine DQ.rd rfl rfl (fun _ => rd_extract (v := .int _ _) (vs := _) rfl rfl) ?_
 refine DQ.rd rfl rfl (fun _ => rd_extract (v := .int _ _) (vs := _) rfl rfl) ?_
 refine DQ.rd rfl rfl (fun _ => rd_extract (v := .int _ _) (vs := _) rfl rfl) ?_
 refine DQ.rd rfl rfl (fun _ => rd_assign (v := .int _ _) rfl) ?_
 refine DQ.rd rfl rfl (fun _ => rd_assign (v := .int _ _) rfl) ?_
 refine DQ.done rfl ?_
 refine rdx (rd_assign (v := .int _ _) rfl) ?_
 refine TO.nil (TQ.then_normal (T.seq (T.seq (T.region ?_))))
 refine rdx (rd_move (v := .int _ _) rfl) ?_
 refine rdx (rd_neq rfl rfl) ?_
 refine TO.nil (TQ.then_normal ?_)
 refine T.cond rfl (fun h1 => ?_) (fun h1 => ?_)
 ·try simp only [nrm] at h1
  refine T.region ?_
  refine rdx (rd_build (cs := []) Tryz.places112 Tryz.zero112 rfl rfl) ?_
  refine rdx (rd_makeIface' Tryz.notif112 rfl) ?_
  refine TO.panic rfl ?_
  refine TQ.then_panic ?_
  exact TQ.panicX (by rw [rdN, if_neg h1])
 try simp only [nrm] at h1
 refine T.skip (TQ.then_normal (T.seq (T.region ?_)))
 refine rdx (rd_move (v := .pointer _) rfl) ?_
 refine rdx (rd_move (v := .int _ _) rfl) ?_
 refine rdx (rd_nilCheck rfl) ?_
 refine rdx (rd_fieldAddr Tryz.field115_1 rfl) ?_
 refine TO.store0 (cells' := #[.string _, .int _ _]) Tryz.size3 rfl (v := .int _ _) rfl rfl rfl (Nat.le_of_ble_eq_true rfl) rfl ?_
 refine TO.nil (TQ.then_normal (T.seq (T.region ?_)))
 refine rdx (rd_move (v := .int _ _) rfl) ?_
 refine rdx (rd_assign (v := .int _ _) rfl) ?_
 refine TO.nil (TQ.then_normal (T.ret ?_))
 refine TQ.own_eq (cells' := #[.string (str s), .int .i64 (((unInt s a).2.1.toNat : Nat) : Int)]) (by rw [Int.toNat_of_nonneg (unInt_next h1).1]) ?_
 refine TQ.doneX (((unInt s a).1, (unInt s a).2.1.toNat)) (by rw [rdN, if_pos h1]) ?_ (fun _ _ h => h.sel (js := [0]) (by decide)) (res1 Tryz.results69 (Res.tmp (v := .int _ _) rfl)) _ (.inl rfl)
 rfl
theorem c_rd_kind (br : Nat) (s : Bytes) (a : Nat) (hs : s.length ≤ 1000000000000) (m : Int) : CtrX Tryz.prog 70 #[.pointer (some ⟨br, 0, none⟩), .int .i64 m] [] [own br #[.string (str s), .int .i64 (a : Nat)] 115] (γ := Nat) (fun x => rdK s a m = some x) (fun x => .tuple #[]) (fun x => [own br #[.string (str s), .int .i64 (x : Nat)] 115]) (rdK s a m = none) (.iface 112 (.agg #[])) := by
 refine CtrX.intro Tryz.func70 rfl Tryz.ntmps70 (Nat.le_of_ble_eq_true rfl) fun S0 w0 => ?_
 refine T.seq (T.region ?_)
 refine rdx (rd_move (v := .pointer _) rfl) ?_
 refine TO.handX Tryz.enters69 rfl (c_rd_number _ _ _ hs) rfl rfl Reads0 (fun hp3 => ?_) (fun x hx => ?_)
 ·refine TQ.then_panic ?_
  exact TQ.panicX (by rw [rdK, hp3]; rfl)
 refine rdx (rd_move (v := .int _ _) rfl) ?_
 refine rdx (rd_neq rfl rfl) ?_
 refine TO.nil (TQ.then_normal ?_)
 refine T.cond_ft rfl (fun h4 => ?_) (fun h4 => ?_)
 ·try simp only [nrm] at h4
  refine T.skip ?_
  refine TQ.doneX (x.2) (by rw [rdK, hx]; exact if_pos h4) ?_ (fun _ _ h => h.sel (js := [0]) (by decide)) (res0 Tryz.results70) _ (.inr rfl)
  rfl
 try simp only [nrm] at h4
 refine T.region ?_
 refine rdx (rd_build (cs := []) Tryz.places112 Tryz.zero112 rfl rfl) ?_
 refine rdx (rd_makeIface' Tryz.notif112 rfl) ?_
 refine TO.panic rfl ?_
 exact TQ.panicX (by rw [rdK, hx]; exact if_neg h4)
theorem c_rd_digest (br : Nat) (s : Bytes) (a : Nat) (hs : s.length ≤ 1000000000000) (ha : a ≤ s.length) : CtrX Tryz.prog 71 #[.pointer (some ⟨br, 0, none⟩)] [] [own br #[.string (str s), .int .i64 (a : Nat)] 115] (γ := Bytes × Nat) (fun x => rdD s a = some x) (fun x => .string (str x.1)) (fun x => [own br #[.string (str s), .int .i64 (x.2 : Nat)] 115]) (rdD s a = none) (.iface 112 (.agg #[])) := by
 refine CtrX.intro Tryz.func71 rfl Tryz.ntmps71 (Nat.le_of_ble_eq_true rfl) fun S0 w0 => ?_
 refine T.seq (T.region ?_)
 refine rdx (rd_assign (v := .string _) rfl) ?_
 refine TO.nil (TQ.then_normal (T.seq (T.seq ?_)))
 refine T.drawq Tryz.mixes 9 [(4, 0), (5, 1), (6, 2), (7, 3), (8, 4), (9, 5), (10, 6), (11, 7), (12, 8)] [0, 1, 3, 7, 15, 0, 32, 96, 224, 511, 1023] (by kernel_rfl) ?_
 refine DQ.rd rfl rfl (fun _ => rd_move (v := .pointer _) rfl) ?_
 refine DQ.rd rfl rfl (fun _ => rd_nilCheck rfl) ?_
 refine DQ.rd rfl rfl (fun _ => rd_fieldAddr Tryz.field115_0 rfl) ?_
 refine DQ.rd rfl rfl (fun _ => rd_load (v := .string _) Tryz.one9 rfl (Has.own 0 rfl) rfl) ?_
 refine DQ.rd rfl rfl (fun _ => rd_lens' Tryz.under9 rfl) ?_
 refine DQ.rd rfl rfl (fun _ => rd_move (v := .pointer _) rfl) ?_
 refine DQ.rd rfl rfl (fun _ => rd_nilCheck rfl) ?_
 refine DQ.rd rfl rfl (fun _ => rd_fieldAddr Tryz.field115_1 rfl) ?_
 refine DQ.rd rfl rfl (fun _ => rd_load (v := .int _ _) Tryz.one3 rfl (Has.own 0 rfl) rfl) ?_
 refine DQ.done rfl ?_
 refine rdx (rd_sub rfl rfl (w64 (by omega) (by omega))) ?_
 refine rdx (rd_lss rfl rfl) ?_
 refine TO.nil (TQ.then_normal ?_)
 refine T.cond rfl (fun h1 => ?_) (fun h1 => ?_)
 ·try simp only [nrm] at h1
  refine T.region ?_
  refine rdx (rd_build (cs := []) Tryz.places112 Tryz.zero112 rfl rfl) ?_
  refine rdx (rd_makeIface' Tryz.notif112 rfl) ?_
  refine TO.panic rfl ?_
  refine TQ.then_panic ?_
  exact TQ.panicX (by rw [rdD, if_neg (by omega)])
 try simp only [nrm] at h1
 refine T.skip (TQ.then_normal (T.seq ?_))
 refine T.drawq Tryz.mixes 13 [(17, 0), (18, 1), (19, 2), (20, 3), (21, 4), (22, 5), (23, 6), (24, 7), (25, 8), (26, 9), (27, 10), (28, 11), (29, 12)] [0, 1, 3, 7, 0, 16, 48, 112, 0, 256, 768, 1792, 3840, 8191, 16383] (by kernel_rfl) ?_
 refine DQ.rd rfl rfl (fun _ => rd_move (v := .pointer _) rfl) ?_
 refine DQ.rd rfl rfl (fun _ => rd_nilCheck rfl) ?_
 refine DQ.rd rfl rfl (fun _ => rd_fieldAddr Tryz.field115_0 rfl) ?_
 refine DQ.rd rfl rfl (fun _ => rd_load (v := .string _) Tryz.one9 rfl (Has.own 0 rfl) rfl) ?_
 refine DQ.rd rfl rfl (fun _ => rd_move (v := .pointer _) rfl) ?_
 refine DQ.rd rfl rfl (fun _ => rd_nilCheck rfl) ?_
 refine DQ.rd rfl rfl (fun _ => rd_fieldAddr Tryz.field115_1 rfl) ?_
 refine DQ.rd rfl rfl (fun _ => rd_load (v := .int _ _) Tryz.one3 rfl (Has.own 0 rfl) rfl) ?_
 refine DQ.rd rfl rfl (fun _ => rd_move (v := .pointer _) rfl) ?_
 refine DQ.rd rfl rfl (fun _ => rd_nilCheck rfl) ?_
 refine DQ.rd rfl rfl (fun _ => rd_fieldAddr Tryz.field115_1 rfl) ?_
 refine DQ.rd rfl rfl (fun _ => rd_load (v := .int _ _) Tryz.one3 rfl (Has.own 0 rfl) rfl) ?_
 refine DQ.rd rfl rfl (fun _ => rd_add rfl rfl (w64 (by omega) (by omega))) ?_
 refine DQ.done rfl ?_
 refine rdx (rd_sub_str (i := a) (j := a + 32) Tryz.under9 rfl (.inr ⟨_, eqv (by omega)⟩) (.inr ⟨_, eqv (by omega)⟩) (by omega) (by omega) rfl) ?_
 refine rdx (rd_assign (v := .string _) rfl) ?_
 refine TO.nil (TQ.then_normal (T.seq (T.region ?_)))
 refine rdx (rd_move (v := .pointer _) rfl) ?_
 refine rdx (rd_nilCheck rfl) ?_
 refine rdx (rd_fieldAddr Tryz.field115_1 rfl) ?_
 refine rdx (rd_load (v := .int _ _) Tryz.one3 rfl (Has.own 0 rfl) rfl) ?_
 refine rdx (rd_add rfl rfl (w64 (by omega) (by omega))) ?_
 refine rdx (rd_nilCheck rfl) ?_
 refine rdx (rd_fieldAddr Tryz.field115_1 rfl) ?_
 refine TO.store0 (cells' := #[.string _, .int _ _]) Tryz.size3 rfl (v := .int _ _) rfl rfl rfl (Nat.le_of_ble_eq_true rfl) rfl ?_
 refine TO.nil (TQ.then_normal (T.seq (T.region ?_)))
 refine rdx (rd_move (v := .string _) rfl) ?_
 refine rdx (rd_assign (v := .string _) rfl) ?_
 refine TO.nil (TQ.then_normal (T.ret ?_))
 refine TQ.own_eq (cells' := #[.string (str s), .int .i64 ((a + 32 : Nat) : Int)]) (by rfl) ?_
 refine TQ.doneX (((s.take (a + 32)).drop a, a + 32)) (by rw [rdD, if_pos (by omega)]) ?_ (fun _ _ h => h.sel (js := [0]) (by decide)) (res1 Tryz.results71 (Res.tmp (v := .string _) rfl)) _ (.inl rfl)
 rfl
end Go.Proofs
end
section
set_option linter.unusedVariables false
set_option linter.unusedSimpArgs false
set_option maxRecDepth 100000
set_option maxHeartbeats 800000
namespace Go.Proofs
open Go.TL
attribute [local irreducible] Go.TL.T Go.TL.TO Go.TL.TQ
theorem Tryz.enters43 : Enters Tryz.prog 43 := fun args w => by kernel_rfl
theorem Tryz.enters45 : Enters Tryz.prog 45 := fun args w => by kernel_rfl
theorem Tryz.enters46 : Enters Tryz.prog 46 := fun args w => by kernel_rfl
theorem Tryz.enters60 : Enters Tryz.prog 60 := fun args w => by kernel_rfl
theorem Tryz.enters80 : Enters Tryz.prog 80 := fun args w => by kernel_rfl
theorem Tryz.enters83 : Enters Tryz.prog 83 := fun args w => by kernel_rfl
theorem Tryz.enters84 : Enters Tryz.prog 84 := fun args w => by kernel_rfl
end Go.Proofs
end
section
set_option linter.unusedVariables false
set_option linter.unusedSimpArgs false
set_option maxRecDepth 100000
set_option maxHeartbeats 800000
namespace Go.Proofs
open Go.TL
attribute [local irreducible] Go.TL.T Go.TL.TO Go.TL.TQ
theorem c_badProxy1 (p : Proxy) : Cv Tryz.prog 84 #[proxyV p] [] (.bool (!(proxyOk p))) := by
 refine Ctr.intro Tryz.func84 rfl Tryz.ntmps84 (Nat.le_of_ble_eq_true rfl) fun S0 w0 => ?_
 refine T.seq (T.region ?_)
 refine TO.box (v := .agg #[.int _ _, .int _ _, .int _ _, .int _ _, .int _ _, .int _ _, .string _]) rfl (fun b1 => ?_)
 refine rdx (rd_assign (v := .bool _) rfl) ?_
 refine TO.nil (TQ.then_normal (T.seq (T.region ?_)))
 refine rdx (rd_load_agg (cs := #[.int _ _, .int _ _, .int _ _, .int _ _, .int _ _, .int _ _, .string _]) Tryz.agg40 rfl (Has.own 0 rfl) rfl rfl) ?_
 refine TO.fn Tryz.enters60 (c_wish_isProxy _) rfl Reads0 ?_
 refine rdx (rd_not rfl) ?_
 refine rdx (rd_assign (v := .bool _) rfl) ?_
 refine TO.nil (TQ.then_normal (T.ret ?_))
 refine TQ.value ?_ (res1 Tryz.results84 (Res.tmp (v := .bool _) rfl)) _ (.inl rfl)
 rfl
theorem c_Encode1 (p : Proxy) : Cv Tryz.prog 62 #[proxyV p] [] (.bool (!(p.sig.length == 32))) := by
 refine Ctr.intro Tryz.func62 rfl Tryz.ntmps62 (Nat.le_of_ble_eq_true rfl) fun S0 w0 => ?_
 refine T.seq (T.region ?_)
 refine TO.box (v := .agg #[.int _ _, .int _ _, .int _ _, .int _ _, .int _ _, .int _ _, .string _]) rfl (fun b1 => ?_)
 refine rdx (rd_assign (v := .bool _) rfl) ?_
 refine TO.nil (TQ.then_normal (T.seq (T.region ?_)))
 refine rdx (rd_fieldAddr Tryz.field40_4 rfl) ?_
 refine rdx (rd_load (v := .string _) Tryz.one9 rfl (Has.own 0 rfl) rfl) ?_
 refine rdx (rd_lens' Tryz.under9 rfl) ?_
 refine rdx (rd_neq rfl rfl) ?_
 refine rdx (rd_assign (v := .bool _) rfl) ?_
 refine TO.nil (TQ.then_normal (T.ret ?_))
 refine TQ.value ?_ (res1 Tryz.results62 (Res.tmp (v := .bool _) rfl)) _ (.inl rfl)
 congr 1
 rw [bne]
 congr 1
 exact beq_nat32 _
theorem c_Why1 (s : Bytes) : Cv Tryz.prog 42 #[.string (str s)] [] (.bool (!(s.length == 32))) := by
 refine Ctr.intro Tryz.func42 rfl Tryz.ntmps42 (Nat.le_of_ble_eq_true rfl) fun S0 w0 => ?_
 refine T.seq (T.region ?_)
 refine rdx (rd_assign (v := .bool _) rfl) ?_
 refine TO.nil (TQ.then_normal (T.seq (T.region ?_)))
 refine rdx (rd_move (v := .string _) rfl) ?_
 refine TO.fn Tryz.enters43 (c_wish_isKey _) rfl Reads0 ?_
 refine rdx (rd_not rfl) ?_
 refine rdx (rd_assign (v := .bool _) rfl) ?_
 refine TO.nil (TQ.then_normal (T.ret ?_))
 refine TQ.value ?_ (res1 Tryz.results42 (Res.tmp (v := .bool _) rfl)) _ (.inl rfl)
 congr 2
 exact beq_nat32 _
theorem c_IndexFuncP (A : Option Addr) (cap n : Nat) (l : List Proxy) (hn : n = l.length) (g : FuncId) (p : Proxy → Bool) (he : Enters Tryz.prog g) (hp : ∀ x, Cv Tryz.prog g #[proxyV x] [] (.bool (p x))) (hl : l.length ≤ 4611686018427387904) : Cv Tryz.prog 83 #[.slice A n cap, .func (.func g) #[] #[]] [slc proxyL 7 A l] (.int .i64 (ixInt (firstIx (fun i => p (l.getD i proxy0)) l.length))) := by
 subst hn
 refine Ctr.intro Tryz.func83 rfl Tryz.ntmps83 (Nat.le_of_ble_eq_true rfl) fun S0 w0 => ?_
 refine T.seq (T.region ?_)
 refine rdx (rd_assign (v := .int _ _) rfl) ?_
 refine TO.nil (TQ.then_normal (T.seq (T.seq (T.region ?_))))
 refine rdx (rd_move (v := .slice _ _ _) rfl) ?_
 refine rdx (rd_lensl Tryz.under31 rfl) ?_
 refine rdx (rd_move (v := .int _ _) rfl) ?_
 refine TO.nil (TQ.then_normal (T.block ?_))
 refine T.loop1 [0, 1, 7] (fun (k : Nat) => [(8, .int .i64 (k : Nat))]) (fun (k : Nat) => []) (fun (k : Nat) => k ≤ l.length ∧ okTo (fun i => p (l.getD i proxy0)) k) (fun (k : Nat) => l.length - k) (0) (⟨Nat.zero_le _, okTo.zero _⟩) (And.intro (rfl) (trivial)) (fun _ _ h => h) fun k g0 hx0 => ?_
 obtain ⟨hk, hk0⟩ := hx0
 refine T.seq (T.region ?_)
 refine rdx (rd_lss rfl rfl) ?_
 refine TO.nil (TQ.then_normal (T.seq ?_))
 refine T.cond_ft rfl (fun h1 => ?_) (fun h1 => ?_)
 ·try simp only [nrm] at h1
  refine T.exit (TQ.then_exit (TQ.then_exit (TQ.block_out (TQ.then_normal (T.seq (T.region ?_))))))
  refine rdx (rd_assign (v := .int _ _) rfl) ?_
  refine TO.nil (TQ.then_normal (T.ret ?_))
  refine TQ.value ?_ (res1 Tryz.results83 (Res.tmp (v := .int _ _) rfl)) _ (.inl rfl)
  rw [firstIx_none fun i hi => hk0 i (by omega)]; rfl
 try simp only [nrm] at h1
 refine T.skip (TQ.then_normal (T.seq (T.block (T.seq (T.region ?_)))))
 refine rdx (rd_move (v := .int _ _) rfl) ?_
 refine rdx (rd_assign (v := .int _ _) rfl) ?_
 refine TO.nil (TQ.then_normal (T.seq (T.region ?_)))
 refine rdx (rd_move (v := .func _ _ _) rfl) ?_
 refine rdx (rd_move (v := .slice _ _ _) rfl) ?_
 refine rdx (rd_move (v := .int _ _) rfl) ?_
 refine rdx (rd_ix Tryz.under31 Tryz.size40 rfl rfl (Has.arg 0 rfl) rfl (by omega) (by omega)) ?_
 refine rdx (rd_ela (cs := [.int _ _, .int _ _, .int _ _, .int _ _, .int _ _, .int _ _, .string _]) _ 0 Tryz.agg40 rfl (Has.arg 0 rfl) rfl (by omega) (Nat.le_of_ble_eq_true rfl) rfl rfl rfl) ?_
 refine TO.hand he rfl (hp (l[k]'(by omega))) rfl rfl Reads0 (fun _ _ => ?_)
 refine TO.nil (TQ.then_normal ?_)
 refine T.cond_ft rfl (fun h2 => ?_) (fun h2 => ?_)
 ·try simp only [nrm] at h2
  refine T.skip (TQ.block_normal (TQ.then_normal (T.region ?_)))
  refine rdx (rd_add rfl rfl (w64 (by omega) (by omega))) ?_
  refine rdx (rd_move (v := .int _ _) rfl) ?_
  refine TO.nil ?_
  refine TQ.againk (k + 1) ?_ ?_ (And.intro (rfl) (trivial)) (And.intro (rfl) (And.intro (rfl) (And.intro (rfl) (trivial)))) (fun _ _ h => h)
  ·exact ⟨by first | omega | (dsimp only; omega), hk0.next (by (try dsimp only); rw [getD_get _ (by omega)]; assumption)⟩
  ·first | omega | (dsimp only; omega)
 try simp only [nrm] at h2
 refine T.seq (T.region ?_)
 refine rdx (rd_move (v := .int _ _) rfl) ?_
 refine rdx (rd_assign (v := .int _ _) rfl) ?_
 refine TO.nil (TQ.then_normal (T.ret (TQ.block_ret (TQ.then_ret (TQ.then_ret (TQ.block_ret (TQ.then_ret ?_)))))))
 refine TQ.value ?_ (res1 Tryz.results83 (Res.tmp (v := .int _ _) rfl)) _ (.inl rfl)
 rw [firstIx_some hk0 (by (try dsimp only); rw [getD_get _ (by omega)]; assumption) (by omega)]; rfl
theorem c_IndexFuncS (A : Option Addr) (cap n : Nat) (l : List Bytes) (hn : n = l.length) (g : FuncId) (p : Bytes → Bool) (he : Enters Tryz.prog g) (hp : ∀ x, Cv Tryz.prog g #[.string (str x)] [] (.bool (p x))) (hl : l.length ≤ 4611686018427387904) : Cv Tryz.prog 80 #[.slice A n cap, .func (.func g) #[] #[]] [slc eStr 1 A l] (.int .i64 (ixInt (firstIx (fun i => p (l.getD i ([] : Bytes))) l.length))) := by
 subst hn
 refine Ctr.intro Tryz.func80 rfl Tryz.ntmps80 (Nat.le_of_ble_eq_true rfl) fun S0 w0 => ?_
 refine T.seq (T.region ?_)
 refine rdx (rd_assign (v := .int _ _) rfl) ?_
 refine TO.nil (TQ.then_normal (T.seq (T.seq (T.region ?_))))
 refine rdx (rd_move (v := .slice _ _ _) rfl) ?_
 refine rdx (rd_lensl Tryz.under32 rfl) ?_
 refine rdx (rd_move (v := .int _ _) rfl) ?_
 refine TO.nil (TQ.then_normal (T.block ?_))
 refine T.loop1 [0, 1, 7] (fun (k : Nat) => [(8, .int .i64 (k : Nat))]) (fun (k : Nat) => []) (fun (k : Nat) => k ≤ l.length ∧ okTo (fun i => p (l.getD i ([] : Bytes))) k) (fun (k : Nat) => l.length - k) (0) (⟨Nat.zero_le _, okTo.zero _⟩) (And.intro (rfl) (trivial)) (fun _ _ h => h) fun k g0 hx0 => ?_
 obtain ⟨hk, hk0⟩ := hx0
 refine T.seq (T.region ?_)
 refine rdx (rd_lss rfl rfl) ?_
 refine TO.nil (TQ.then_normal (T.seq ?_))
 refine T.cond_ft rfl (fun h1 => ?_) (fun h1 => ?_)
 ·try simp only [nrm] at h1
  refine T.exit (TQ.then_exit (TQ.then_exit (TQ.block_out (TQ.then_normal (T.seq (T.region ?_))))))
  refine rdx (rd_assign (v := .int _ _) rfl) ?_
  refine TO.nil (TQ.then_normal (T.ret ?_))
  refine TQ.value ?_ (res1 Tryz.results80 (Res.tmp (v := .int _ _) rfl)) _ (.inl rfl)
  rw [firstIx_none fun i hi => hk0 i (by omega)]; rfl
 try simp only [nrm] at h1
 refine T.skip (TQ.then_normal (T.seq (T.block (T.seq (T.region ?_)))))
 refine rdx (rd_move (v := .int _ _) rfl) ?_
 refine rdx (rd_assign (v := .int _ _) rfl) ?_
 refine TO.nil (TQ.then_normal (T.seq (T.region ?_)))
 refine rdx (rd_move (v := .func _ _ _) rfl) ?_
 refine rdx (rd_move (v := .slice _ _ _) rfl) ?_
 refine rdx (rd_move (v := .int _ _) rfl) ?_
 refine rdx (rd_ix Tryz.under32 Tryz.size9 rfl rfl (Has.arg 0 rfl) rfl (by omega) (by omega)) ?_
 refine rdx (rd_el (v := .string _) _ 0 Tryz.one9 rfl (Has.arg 0 rfl) rfl (by omega) (Nat.le_of_ble_eq_true rfl) rfl) ?_
 refine TO.hand he rfl (hp (l[k]'(by omega))) rfl rfl Reads0 (fun _ _ => ?_)
 refine TO.nil (TQ.then_normal ?_)
 refine T.cond_ft rfl (fun h2 => ?_) (fun h2 => ?_)
 ·try simp only [nrm] at h2
  refine T.skip (TQ.block_normal (TQ.then_normal (T.region ?_)))
  refine rdx (rd_add rfl rfl (w64 (by omega) (by omega))) ?_
  refine rdx (rd_move (v := .int _ _) rfl) ?_
  refine TO.nil ?_
  refine TQ.againk (k + 1) ?_ ?_ (And.intro (rfl) (trivial)) (And.intro (rfl) (And.intro (rfl) (And.intro (rfl) (trivial)))) (fun _ _ h => h)
  ·exact ⟨by first | omega | (dsimp only; omega), hk0.next (by (try dsimp only); rw [getD_get _ (by omega)]; assumption)⟩
  ·first | omega | (dsimp only; omega)
 try simp only [nrm] at h2
 refine T.seq (T.region ?_)
 refine rdx (rd_move (v := .int _ _) rfl) ?_
 refine rdx (rd_assign (v := .int _ _) rfl) ?_
 refine TO.nil (TQ.then_normal (T.ret (TQ.block_ret (TQ.then_ret (TQ.then_ret (TQ.block_ret (TQ.then_ret ?_)))))))
 refine TQ.value ?_ (res1 Tryz.results80 (Res.tmp (v := .int _ _) rfl)) _ (.inl rfl)
 rw [firstIx_some hk0 (by (try dsimp only); rw [getD_get _ (by omega)]; assumption) (by omega)]; rfl
theorem c_ContainsFuncP (A : Option Addr) (cap n : Nat) (l : List Proxy) (hn : n = l.length) (g : FuncId) (p : Proxy → Bool) (he : Enters Tryz.prog g) (hp : ∀ x, Cv Tryz.prog g #[proxyV x] [] (.bool (p x))) (hl : l.length ≤ 4611686018427387904) : Cv Tryz.prog 63 #[.slice A n cap, .func (.func g) #[] #[]] [slc proxyL 7 A l] (.bool (decide (0 ≤ ixInt (firstIx (fun i => p (l.getD i proxy0)) l.length)))) := by
 subst hn
 refine Ctr.intro Tryz.func63 rfl Tryz.ntmps63 (Nat.le_of_ble_eq_true rfl) fun S0 w0 => ?_
 refine T.seq (T.region ?_)
 refine rdx (rd_assign (v := .bool _) rfl) ?_
 refine TO.nil (TQ.then_normal (T.seq (T.region ?_)))
 refine rdx (rd_move (v := .slice _ _ _) rfl) ?_
 refine rdx (rd_move (v := .func _ _ _) rfl) ?_
 refine TO.fn Tryz.enters83 (c_IndexFuncP _ _ _ l rfl g p he hp hl) rfl (ReadsC (Has.arg 0 rfl) Reads0) ?_
 refine rdx (rd_geq rfl rfl) ?_
 refine rdx (rd_assign (v := .bool _) rfl) ?_
 refine TO.nil (TQ.then_normal (T.ret ?_))
 refine TQ.value ?_ (res1 Tryz.results63 (Res.tmp (v := .bool _) rfl)) _ (.inl rfl)
 rfl
theorem c_ContainsFuncS (A : Option Addr) (cap n : Nat) (l : List Bytes) (hn : n = l.length) (g : FuncId) (p : Bytes → Bool) (he : Enters Tryz.prog g) (hp : ∀ x, Cv Tryz.prog g #[.string (str x)] [] (.bool (p x))) (hl : l.length ≤ 4611686018427387904) : Cv Tryz.prog 44 #[.slice A n cap, .func (.func g) #[] #[]] [slc eStr 1 A l] (.bool (decide (0 ≤ ixInt (firstIx (fun i => p (l.getD i ([] : Bytes))) l.length)))) := by
 subst hn
 refine Ctr.intro Tryz.func44 rfl Tryz.ntmps44 (Nat.le_of_ble_eq_true rfl) fun S0 w0 => ?_
 refine T.seq (T.region ?_)
 refine rdx (rd_assign (v := .bool _) rfl) ?_
 refine TO.nil (TQ.then_normal (T.seq (T.region ?_)))
 refine rdx (rd_move (v := .slice _ _ _) rfl) ?_
 refine rdx (rd_move (v := .func _ _ _) rfl) ?_
 refine TO.fn Tryz.enters80 (c_IndexFuncS _ _ _ l rfl g p he hp hl) rfl (ReadsC (Has.arg 0 rfl) Reads0) ?_
 refine rdx (rd_geq rfl rfl) ?_
 refine rdx (rd_assign (v := .bool _) rfl) ?_
 refine TO.nil (TQ.then_normal (T.ret ?_))
 refine TQ.value ?_ (res1 Tryz.results44 (Res.tmp (v := .bool _) rfl)) _ (.inl rfl)
 rfl
theorem c_badProxy (A : Option Addr) (cap n : Nat) (l : List Proxy) (hn : n = l.length) (hl : l.length ≤ 4611686018427387904) : Cv Tryz.prog 46 #[.slice A n cap] [slc proxyL 7 A l] (.int .i64 (ixInt (firstIx (formP l) l.length))) := by
 subst hn
 refine Ctr.intro Tryz.func46 rfl Tryz.ntmps46 (Nat.le_of_ble_eq_true rfl) fun S0 w0 => ?_
 refine T.seq (T.region ?_)
 refine rdx (rd_assign (v := .int _ _) rfl) ?_
 refine TO.nil (TQ.then_normal (T.seq (T.region ?_)))
 refine rdx (rd_move (v := .slice _ _ _) rfl) ?_
 refine TO.fn Tryz.enters83 (c_IndexFuncP _ _ _ l (by first | rfl | simp | omega) _ (fun x => !(proxyOk x)) Tryz.enters84 (fun x => c_badProxy1 x) (by first | omega | simp)) rfl (ReadsC (Has.arg 0 rfl) Reads0) ?_
 refine rdx (rd_assign (v := .int _ _) rfl) ?_
 refine TO.nil (TQ.then_normal (T.ret ?_))
 refine TQ.value ?_ (res1 Tryz.results46 (Res.tmp (v := .int _ _) rfl)) _ (.inl rfl)
 rfl
theorem c_wish_Formed (w : Wish) (A : Option Addr) (cap n : Nat) (l : List Proxy) (hn : n = l.length) (hl : l.length ≤ 4611686018427387904) : Cv Tryz.prog 17 #[wishV w, .slice A n cap] [slc proxyL 7 A l] (.bool (formedOk w l)) := by
 subst hn
 refine Ctr.intro Tryz.func17 rfl Tryz.ntmps17 (Nat.le_of_ble_eq_true rfl) fun S0 w0 => ?_
 refine T.seq (T.region ?_)
 refine TO.box (v := .agg #[.int _ _, .int _ _, .int _ _, .int _ _, .int _ _, .int _ _, .int _ _, .int _ _, .string _]) rfl (fun b1 => ?_)
 refine rdx (rd_assign (v := .bool _) rfl) ?_
 refine TO.nil (TQ.then_normal (T.seq (T.region ?_)))
 refine rdx (rd_load_agg (cs := #[.int _ _, .int _ _, .int _ _, .int _ _, .int _ _, .int _ _, .int _ _, .int _ _, .string _]) Tryz.agg30 rfl (Has.own 0 rfl) rfl rfl) ?_
 refine TO.fn Tryz.enters45 (c_wish_isWish _) rfl Reads0 ?_
 refine rdx (rd_move (v := .bool _) rfl) ?_
 refine TO.decide_ft (s := 7) rfl (fun h2 => ?_) (fun h2 => ?_)
 ·try simp only [nrm] at h2
  refine TO.guard_false (s := 7) (b' := false) rfl rfl nofun ?_
  refine TO.guard_false (s := 7) (b' := false) rfl rfl nofun ?_
  refine TO.guard_false (s := 7) (b' := false) rfl rfl nofun ?_
  refine rdx (rd_pick_false (v := .bool _) rfl rfl) ?_
  refine rdx (rd_move (v := .bool _) rfl) ?_
  refine TO.guard_false (s := 12) (b' := false) rfl rfl nofun ?_
  refine TO.guard_false (s := 12) (b' := false) rfl rfl nofun ?_
  refine TO.guard_false (s := 12) (b' := false) rfl rfl nofun ?_
  refine rdx (rd_pick_false (v := .bool _) rfl rfl) ?_
  refine rdx (rd_assign (v := .bool _) rfl) ?_
  refine TO.nil (TQ.then_normal (T.ret ?_))
  refine TQ.value ?_ (res1 Tryz.results17 (Res.tmp (v := .bool _) rfl)) _ (.inl rfl)
  rw [formedOk, formOk_eq]; simp_all <;> omega
 try simp only [nrm] at h2
 refine TO.guard_true (s := 7) rfl rfl ?_
 refine rdx (rd_move (v := .slice _ _ _) rfl) ?_
 refine TO.guard_true (s := 7) rfl rfl ?_
 refine rdx (rd_lensl Tryz.under31 rfl) ?_
 refine TO.guard_true (s := 7) rfl rfl ?_
 refine rdx (rd_leq rfl rfl) ?_
 refine rdx (rd_pick_true (v := .bool _) rfl rfl) ?_
 refine rdx (rd_move (v := .bool _) rfl) ?_
 refine TO.decide_ft (s := 12) rfl (fun h3 => ?_) (fun h3 => ?_)
 ·try simp only [nrm] at h3
  refine TO.guard_false (s := 12) (b' := false) rfl rfl nofun ?_
  refine TO.guard_false (s := 12) (b' := false) rfl rfl nofun ?_
  refine TO.guard_false (s := 12) (b' := false) rfl rfl nofun ?_
  refine rdx (rd_pick_false (v := .bool _) rfl rfl) ?_
  refine rdx (rd_assign (v := .bool _) rfl) ?_
  refine TO.nil (TQ.then_normal (T.ret ?_))
  refine TQ.value ?_ (res1 Tryz.results17 (Res.tmp (v := .bool _) rfl)) _ (.inl rfl)
  rw [formedOk, formOk_eq]; simp_all <;> omega
 try simp only [nrm] at h3
 refine TO.guard_true (s := 12) rfl rfl ?_
 refine rdx (rd_move (v := .slice _ _ _) rfl) ?_
 refine TO.guard_true (s := 12) rfl rfl ?_
 refine TO.fn Tryz.enters46 (c_badProxy _ _ _ l (by first | rfl | simp | omega) (by first | omega | assumption)) rfl (ReadsC (Has.arg 0 rfl) Reads0) ?_
 refine TO.guard_true (s := 12) rfl rfl ?_
 refine rdx (rd_lss rfl rfl) ?_
 refine rdx (rd_pick_true (v := .bool _) rfl rfl) ?_
 refine rdx (rd_assign (v := .bool _) rfl) ?_
 refine TO.nil (TQ.then_normal (T.ret ?_))
 refine TQ.value ?_ (res1 Tryz.results17 (Res.tmp (v := .bool _) rfl)) _ (.inl rfl)
 rw [formedOk, formOk_eq]; simp_all <;> omega
theorem c_wish_isIn (a b c d : Int) (p : Proxy) : Cv Tryz.prog 86 #[.agg #[.int .i64 a, .int .i64 b], .agg #[.int .i64 c, .int .i64 d], proxyV p] [] (.bool (inScope a b c d p)) := by
 refine Ctr.intro Tryz.func86 rfl Tryz.ntmps86 (Nat.le_of_ble_eq_true rfl) fun S0 w0 => ?_
 refine T.seq (T.region ?_)
 refine TO.box (v := .agg #[.int _ _, .int _ _]) rfl (fun b1 => ?_)
 refine TO.box (v := .agg #[.int _ _, .int _ _]) rfl (fun b2 => ?_)
 refine TO.box (v := .agg #[.int _ _, .int _ _, .int _ _, .int _ _, .int _ _, .int _ _, .string _]) rfl (fun b3 => ?_)
 refine rdx (rd_assign (v := .bool _) rfl) ?_
 refine TO.nil (TQ.then_normal (T.seq (T.region ?_)))
 refine rdx (rd_fieldAddr Tryz.field40_2 rfl) ?_
 refine rdx (rd_fieldAddr Tryz.field27_0 rfl) ?_
 refine rdx (rd_load (v := .int _ _) Tryz.one3 rfl (Has.own 0 rfl) rfl) ?_
 refine rdx (rd_fieldAddr Tryz.field27_0 rfl) ?_
 refine rdx (rd_load (v := .int _ _) Tryz.one3 rfl (Has.own 2 rfl) rfl) ?_
 refine rdx (rd_leq rfl rfl) ?_
 refine rdx (rd_move (v := .bool _) rfl) ?_
 refine TO.decide_ft (s := 13) rfl (fun h4 => ?_) (fun h4 => ?_)
 ·refine TO.guard_false (s := 13) (b' := false) rfl rfl nofun ?_
  refine TO.guard_false (s := 13) (b' := false) rfl rfl nofun ?_
  refine TO.guard_false (s := 13) (b' := false) rfl rfl nofun ?_
  refine TO.guard_false (s := 13) (b' := false) rfl rfl nofun ?_
  refine TO.guard_false (s := 13) (b' := false) rfl rfl nofun ?_
  refine TO.guard_false (s := 13) (b' := false) rfl rfl nofun ?_
  refine rdx (rd_pick_false (v := .bool _) rfl rfl) ?_
  refine rdx (rd_move (v := .bool _) rfl) ?_
  refine TO.guard_false (s := 21) (b' := false) rfl rfl nofun ?_
  refine TO.guard_false (s := 21) (b' := false) rfl rfl nofun ?_
  refine TO.guard_false (s := 21) (b' := false) rfl rfl nofun ?_
  refine TO.guard_false (s := 21) (b' := false) rfl rfl nofun ?_
  refine TO.guard_false (s := 21) (b' := false) rfl rfl nofun ?_
  refine TO.guard_false (s := 21) (b' := false) rfl rfl nofun ?_
  refine rdx (rd_pick_false (v := .bool _) rfl rfl) ?_
  refine rdx (rd_move (v := .bool _) rfl) ?_
  refine TO.guard_false (s := 29) (b' := false) rfl rfl nofun ?_
  refine TO.guard_false (s := 29) (b' := false) rfl rfl nofun ?_
  refine TO.guard_false (s := 29) (b' := false) rfl rfl nofun ?_
  refine TO.guard_false (s := 29) (b' := false) rfl rfl nofun ?_
  refine TO.guard_false (s := 29) (b' := false) rfl rfl nofun ?_
  refine TO.guard_false (s := 29) (b' := false) rfl rfl nofun ?_
  refine rdx (rd_pick_false (v := .bool _) rfl rfl) ?_
  refine rdx (rd_assign (v := .bool _) rfl) ?_
  refine TO.nil (TQ.then_normal (T.ret ?_))
  refine TQ.value ?_ (res1 Tryz.results86 (Res.tmp (v := .bool _) rfl)) _ (.inl rfl)
  show Value.bool _ = Value.bool _; simp [inScope, scopeOk, h4]
 refine TO.guard_true (s := 13) rfl rfl ?_
 refine rdx (rd_fieldAddr Tryz.field27_1 rfl) ?_
 refine TO.guard_true (s := 13) rfl rfl ?_
 refine rdx (rd_load (v := .int _ _) Tryz.one3 rfl (Has.own 2 rfl) rfl) ?_
 refine TO.guard_true (s := 13) rfl rfl ?_
 refine rdx (rd_fieldAddr Tryz.field40_2 rfl) ?_
 refine TO.guard_true (s := 13) rfl rfl ?_
 refine rdx (rd_fieldAddr Tryz.field27_1 rfl) ?_
 refine TO.guard_true (s := 13) rfl rfl ?_
 refine rdx (rd_load (v := .int _ _) Tryz.one3 rfl (Has.own 0 rfl) rfl) ?_
 refine TO.guard_true (s := 13) rfl rfl ?_
 refine rdx (rd_leq rfl rfl) ?_
 refine rdx (rd_pick_true (v := .bool _) rfl rfl) ?_
 refine rdx (rd_move (v := .bool _) rfl) ?_
 refine TO.decide_ft (s := 21) rfl (fun h5 => ?_) (fun h5 => ?_)
 ·refine TO.guard_false (s := 21) (b' := false) rfl rfl nofun ?_
  refine TO.guard_false (s := 21) (b' := false) rfl rfl nofun ?_
  refine TO.guard_false (s := 21) (b' := false) rfl rfl nofun ?_
  refine TO.guard_false (s := 21) (b' := false) rfl rfl nofun ?_
  refine TO.guard_false (s := 21) (b' := false) rfl rfl nofun ?_
  refine TO.guard_false (s := 21) (b' := false) rfl rfl nofun ?_
  refine rdx (rd_pick_false (v := .bool _) rfl rfl) ?_
  refine rdx (rd_move (v := .bool _) rfl) ?_
  refine TO.guard_false (s := 29) (b' := false) rfl rfl nofun ?_
  refine TO.guard_false (s := 29) (b' := false) rfl rfl nofun ?_
  refine TO.guard_false (s := 29) (b' := false) rfl rfl nofun ?_
  refine TO.guard_false (s := 29) (b' := false) rfl rfl nofun ?_
  refine TO.guard_false (s := 29) (b' := false) rfl rfl nofun ?_
  refine TO.guard_false (s := 29) (b' := false) rfl rfl nofun ?_
  refine rdx (rd_pick_false (v := .bool _) rfl rfl) ?_
  refine rdx (rd_assign (v := .bool _) rfl) ?_
  refine TO.nil (TQ.then_normal (T.ret ?_))
  refine TQ.value ?_ (res1 Tryz.results86 (Res.tmp (v := .bool _) rfl)) _ (.inl rfl)
  show Value.bool _ = Value.bool _; simp [inScope, scopeOk, h4, h5]
 refine TO.guard_true (s := 21) rfl rfl ?_
 refine rdx (rd_fieldAddr Tryz.field40_3 rfl) ?_
 refine TO.guard_true (s := 21) rfl rfl ?_
 refine rdx (rd_fieldAddr Tryz.field28_0 rfl) ?_
 refine TO.guard_true (s := 21) rfl rfl ?_
 refine rdx (rd_load (v := .int _ _) Tryz.one3 rfl (Has.own 0 rfl) rfl) ?_
 refine TO.guard_true (s := 21) rfl rfl ?_
 refine rdx (rd_fieldAddr Tryz.field28_0 rfl) ?_
 refine TO.guard_true (s := 21) rfl rfl ?_
 refine rdx (rd_load (v := .int _ _) Tryz.one3 rfl (Has.own 1 rfl) rfl) ?_
 refine TO.guard_true (s := 21) rfl rfl ?_
 refine rdx (rd_leq rfl rfl) ?_
 refine rdx (rd_pick_true (v := .bool _) rfl rfl) ?_
 refine rdx (rd_move (v := .bool _) rfl) ?_
 refine TO.decide_ft (s := 29) rfl (fun h6 => ?_) (fun h6 => ?_)
 ·refine TO.guard_false (s := 29) (b' := false) rfl rfl nofun ?_
  refine TO.guard_false (s := 29) (b' := false) rfl rfl nofun ?_
  refine TO.guard_false (s := 29) (b' := false) rfl rfl nofun ?_
  refine TO.guard_false (s := 29) (b' := false) rfl rfl nofun ?_
  refine TO.guard_false (s := 29) (b' := false) rfl rfl nofun ?_
  refine TO.guard_false (s := 29) (b' := false) rfl rfl nofun ?_
  refine rdx (rd_pick_false (v := .bool _) rfl rfl) ?_
  refine rdx (rd_assign (v := .bool _) rfl) ?_
  refine TO.nil (TQ.then_normal (T.ret ?_))
  refine TQ.value ?_ (res1 Tryz.results86 (Res.tmp (v := .bool _) rfl)) _ (.inl rfl)
  show Value.bool _ = Value.bool _; simp [inScope, scopeOk, h4, h5, h6]
 refine TO.guard_true (s := 29) rfl rfl ?_
 refine rdx (rd_fieldAddr Tryz.field28_1 rfl) ?_
 refine TO.guard_true (s := 29) rfl rfl ?_
 refine rdx (rd_load (v := .int _ _) Tryz.one3 rfl (Has.own 1 rfl) rfl) ?_
 refine TO.guard_true (s := 29) rfl rfl ?_
 refine rdx (rd_fieldAddr Tryz.field40_3 rfl) ?_
 refine TO.guard_true (s := 29) rfl rfl ?_
 refine rdx (rd_fieldAddr Tryz.field28_1 rfl) ?_
 refine TO.guard_true (s := 29) rfl rfl ?_
 refine rdx (rd_load (v := .int _ _) Tryz.one3 rfl (Has.own 0 rfl) rfl) ?_
 refine TO.guard_true (s := 29) rfl rfl ?_
 refine rdx (rd_leq rfl rfl) ?_
 refine rdx (rd_pick_true (v := .bool _) rfl rfl) ?_
 refine rdx (rd_assign (v := .bool _) rfl) ?_
 refine TO.nil (TQ.then_normal (T.ret ?_))
 refine TQ.value ?_ (res1 Tryz.results86 (Res.tmp (v := .bool _) rfl)) _ (.inl rfl)
 show Value.bool _ = Value.bool _; simp [inScope, scopeOk, h4, h5, h6]
end Go.Proofs
end
section
set_option linter.unusedVariables false
set_option linter.unusedSimpArgs false
set_option maxRecDepth 100000
set_option maxHeartbeats 800000
namespace Go.Proofs
open Go.TL
attribute [local irreducible] Go.TL.T Go.TL.TO Go.TL.TQ
theorem c_dec1_calm (b2 b3 b4 : Nat) : CalmD Tryz.prog 68 #[.pointer (some ⟨b2, 0, none⟩), .pointer (some ⟨b3, 0, none⟩), .pointer (some ⟨b4, 0, none⟩)] := by
 refine CalmD.intro Tryz.func68 rfl Tryz.ntmps68 (Nat.le_of_ble_eq_true rfl) rfl fun w0 => ?_
 refine T.block (T.seq (T.region ?_))
 refine rdx (rd_eqi_nil Tryz.under20 rfl rfl) ?_
 refine TO.nil (TQ.then_normal ?_)
 refine T.cond_true rfl ?_
 refine T.region ?_
 refine rdx (rd_assign (v := _) rfl) ?_
 refine TO.nil (TQ.block_normal ?_)
 exact TQ.calm (.inl rfl)
theorem c_dec1_mends (b2 b3 b4 : Nat) (c2 : List Value) (h2 : c2.length = 9) (v3 v4 : Value) : Mends Tryz.prog 68 #[.pointer (some ⟨b2, 0, none⟩), .pointer (some ⟨b3, 0, none⟩), .pointer (some ⟨b4, 0, none⟩)] (.iface 112 (.agg #[])) [own b2 c2.toArray 30, own b3 #[v3] 31, own b4 #[v4] 54] [own b2 (wishC wish0) 30, own b3 #[.slice none 0 0] 31, own b4 #[.int .i64 150] 54] := by
 refine Mends.intro Tryz.func68 rfl Tryz.ntmps68 (Nat.le_of_ble_eq_true rfl) rfl fun S0 w0 => ?_
 refine T.block (T.seq (T.region ?_))
 refine rdx (rd_eqi_some Tryz.under20 rfl rfl) ?_
 refine TO.nil (TQ.then_normal ?_)
 refine T.cond_false rfl ?_
 refine T.seq (T.region ?_)
 refine rdx (rd_assert' Tryz.notif112 rfl) ?_
 refine rdx (rd_extract (v := .bool _) (vs := _) rfl rfl) ?_
 refine rdx (rd_extract (v := .agg _) (vs := _) rfl rfl) ?_
 refine TO.nil (TQ.then_normal ?_)
 refine T.cond_true rfl ?_
 refine T.seq (T.region ?_)
 refine TO.alloc Tryz.zero112 (fun b1 => ?_)
 refine TO.store0 (cells' := #[]) Tryz.size112 rfl (v := .agg #[]) rfl rfl rfl (Nat.le_of_ble_eq_true rfl) rfl ?_
 refine TO.nil (TQ.then_normal (T.region ?_))
 refine rdx (rd_build (cs := [.int _ _, .int _ _, .int _ _, .int _ _, .int _ _, .int _ _, .int _ _, .int _ _, .string _]) Tryz.places30 Tryz.zero30 rfl rfl) ?_
 refine TO.front1 ?_
 refine TO.store_whole (cs := wishL wish0) Tryz.size30 rfl rfl rfl h2 rfl ?_
 refine TO.front2 ?_
 refine TO.store0 (cells' := #[.slice none 0 0]) Tryz.size31 rfl (v := .slice none 0 0) rfl rfl rfl (Nat.le_of_ble_eq_true rfl) rfl ?_
 refine TO.front3 ?_
 refine TO.store0 (cells' := #[.int .i64 150]) Tryz.size54 rfl (v := .int .i64 150) rfl rfl rfl (Nat.le_of_ble_eq_true rfl) rfl ?_
 refine TO.nil (TQ.block_normal ?_)
 exact TQ.mends (.inl rfl) (fun _ _ h => h.sel (js := [2, 1, 0]) (by decide))
end Go.Proofs
end
section
set_option linter.unusedVariables false
set_option linter.unusedSimpArgs false
set_option maxRecDepth 100000
set_option maxHeartbeats 800000
namespace Go.Proofs
open Go.TL
attribute [local irreducible] Go.TL.T Go.TL.TO Go.TL.TQ
theorem c_wish_Decode (s : Bytes) (hs : s.length ≤ 1000000000000) : Ctr Tryz.prog 26 #[.string (str s)] [] [] (γ := Option Addr × Nat) (fun x => True) (fun x => .tuple #[wishV (decodeOf s).1, .slice x.1 (decodeOf s).2.1.length x.2, .int .i64 (decodeOf s).2.2]) (fun x => [row 40 7 x.1 (decodeOf s).2.1.length x.2 ((decodeOf s).2.1.flatMap proxyL)]) := by
 refine Ctr.introD Tryz.func26 rfl Tryz.ntmps26 (Nat.le_of_ble_eq_true rfl) fun S0 w0 => ?_
 refine T.seq (T.region ?_)
 refine TO.alloc Tryz.zero30 (fun b1 => ?_)
 refine TO.alloc Tryz.zero31 (fun b2 => ?_)
 refine TO.newrow 40 7 ?_
 refine TO.alloc Tryz.zero54 (fun b3 => ?_)
 refine TO.nil (TQ.then_normal (T.seq (T.region ?_)))
 refine rdx (rd_clo (b := [_, _, _]) rfl) ?_
 refine TO.defer rfl ?_
 refine TO.nil (TQ.then_normal (T.seq (T.region ?_)))
 refine rdx (rd_move (v := .string _) rfl) ?_
 refine rdx (rd_build (cs := [.string _, .int _ _]) Tryz.places115 Tryz.zero115 rfl rfl) ?_
 refine TO.box (v := .agg #[.string _, .int _ _]) rfl (fun b4 => ?_)
 refine TO.own_eq (cells' := #[.string (str s), .int .i64 ((0 : Nat) : Int)]) (by rfl) ?_
 refine rdx (rd_assign (v := .pointer _) rfl) ?_
 refine TO.nil (TQ.then_normal (T.seq (T.region ?_)))
 refine rdx (rd_move (v := .pointer _) rfl) ?_
 refine TO.handX Tryz.enters69 rfl (c_rd_number _ _ _ hs) rfl rfl Reads0 (fun hp7 => ?_) (fun ⟨m, a1⟩ hm => ?_)
 ·refine TQ.then_panic ?_
  have hd : decodeOf s = (wish0, [], 150) := dec1 hp7
  refine TQ.front2 ?_
  refine TQ.front3 ?_
  exact TQ.panicD Tryz.enters68 (c_dec1_mends _ _ _ _ (by first | rfl | (rw [NC_len (by omega)])) _ _) rfl (none, 0) trivial (by rw [hd]; rfl) (fun S w h => by rw [hd]; exact one_seps nil_row) (res3 Tryz.results26 (Res.cells (cs := wishC wish0) Tryz.agg30 rfl (Has.own 0 rfl) rfl rfl) (Res.cell (v := .slice none 0 0) Tryz.one31 rfl (Has.own 1 rfl) rfl) (Res.cell (v := .int .i64 150) Tryz.one54 rfl (Has.own 2 rfl) rfl))
 refine rdx (rd_assign (v := .int _ _) rfl) ?_
 refine TO.nil (TQ.then_normal (T.seq (T.seq (T.region ?_))))
 refine rdx (rd_move (v := .int _ _) rfl) ?_
 refine TO.fn Tryz.enters47 (c_wish_isWithin _ _ _) rfl Reads0 ?_
 refine rdx (rd_not rfl) ?_
 refine TO.nil (TQ.then_normal ?_)
 refine T.cond rfl (fun h8 => ?_) (fun h8 => ?_)
 ·try simp only [nrm] at h8
  refine T.region ?_
  refine rdx (rd_build (cs := []) Tryz.places112 Tryz.zero112 rfl rfl) ?_
  refine rdx (rd_makeIface' Tryz.notif112 rfl) ?_
  refine TO.panic rfl ?_
  refine TQ.then_panic ?_
  have hd : decodeOf s = (wish0, [], 150) := dec2 hm h8
  refine TQ.front1 ?_
  refine TQ.front3 ?_
  refine TQ.front4 ?_
  exact TQ.panicD Tryz.enters68 (c_dec1_mends _ _ _ _ (by first | rfl | (rw [NC_len (by omega)])) _ _) rfl (none, 0) trivial (by rw [hd]; rfl) (fun S w h => by rw [hd]; exact one_seps nil_row) (res3 Tryz.results26 (Res.cells (cs := wishC wish0) Tryz.agg30 rfl (Has.own 0 rfl) rfl rfl) (Res.cell (v := .slice none 0 0) Tryz.one31 rfl (Has.own 1 rfl) rfl) (Res.cell (v := .int .i64 150) Tryz.one54 rfl (Has.own 2 rfl) rfl))
 try simp only [nrm] at h8
 refine T.skip (TQ.then_normal (T.seq (T.seq (T.region ?_))))
 refine rdx (rd_move (v := .int _ _) rfl) ?_
 have hwt := h8
 have hm4 : 0 ≤ m ∧ m ≤ 4 := by have hq := hwt; simp only [within, Bool.and_eq_true, decide_eq_true_eq] at hq; exact hq
 refine rdx (rd_move (v := .int _ _) rfl) ?_
 refine TO.nil (TQ.then_normal (T.block ?_))
 refine T.front2 ?_
 refine T.front3 ?_
 refine T.front2 ?_
 refine T.loop5 [0, 2, 3, 4, 5, 23] (fun (A : Option Addr) (cap : Nat) (k : Nat) (l : List Proxy) (a : Nat) => [(24, .int .i64 (k : Nat))]) (fun (A : Option Addr) (cap : Nat) (k : Nat) (l : List Proxy) (a : Nat) => [own b4 #[.string (str s), .int .i64 ((a : Nat) : Int)] 115, own b2 #[.slice A k cap] 31, row 40 7 A k cap (l.flatMap proxyL)]) (fun (A : Option Addr) (cap : Nat) (k : Nat) (l : List Proxy) (a : Nat) => rdPs s k a1 = some (l, a) ∧ l.length = k ∧ k ≤ m.toNat) (fun (A : Option Addr) (cap : Nat) (k : Nat) (l : List Proxy) (a : Nat) => m.toNat - k) (none) (0) (0) ([]) (a1) (⟨rfl, rfl, Nat.zero_le _⟩) (And.intro (rfl) (trivial)) (fun _ _ h => h) fun A cap k l a g0 hx0 => ?_
 obtain ⟨hps, hlk, hkm⟩ := hx0
 refine T.seq (T.region ?_)
 refine rdx (rd_lss rfl rfl) ?_
 refine TO.nil (TQ.then_normal (T.seq ?_))
 refine T.cond rfl (fun h9 => ?_) (fun h9 => ?_)
 ·try simp only [nrm] at h9
  refine T.skip (TQ.then_normal (T.seq (T.block (T.seq (T.region ?_)))))
  refine TO.alloc Tryz.zero40 (fun b10 => ?_)
  refine TO.nil (TQ.then_normal (T.seq (T.region ?_)))
  refine rdx (rd_move (v := .pointer _) rfl) ?_
  refine TO.front1 ?_
  refine TO.handX Tryz.enters70 rfl (c_rd_kind _ _ _ hs _) rfl rfl Reads0 (fun hp13 => ?_) (fun b1n hb => ?_)
  ·refine TQ.then_panic ?_
   refine TQ.block_panic ?_
   refine TQ.then_panic ?_
   refine TQ.then_panic ?_
   refine TQ.block_panic ?_
   refine TQ.then_panic ?_
   have hd : decodeOf s = (wish0, [], 150) := dec3 hm hps (by omega) (by rw [rdP, hp13]; rfl)
   refine TQ.front3 ?_
   refine TQ.front2 ?_
   refine TQ.front4 ?_
   exact TQ.panicD Tryz.enters68 (c_dec1_mends _ _ _ _ (by first | rfl | (rw [NC_len (by omega)])) _ _) rfl (none, 0) trivial (by rw [hd]; rfl) (fun S w h => by rw [hd]; exact one_seps nil_row) (res3 Tryz.results26 (Res.cells (cs := wishC wish0) Tryz.agg30 rfl (Has.own 0 rfl) rfl rfl) (Res.cell (v := .slice none 0 0) Tryz.one31 rfl (Has.own 1 rfl) rfl) (Res.cell (v := .int .i64 150) Tryz.one54 rfl (Has.own 2 rfl) rfl))
  refine TO.nil (TQ.then_normal (T.seq (T.seq (T.region ?_))))
  refine rdx (rd_fieldAddr Tryz.field40_0 rfl) ?_
  refine rdx (rd_fieldAddr Tryz.field40_1 rfl) ?_
  refine rdx (rd_fieldAddr Tryz.field40_2 rfl) ?_
  refine rdx (rd_fieldAddr Tryz.field27_0 rfl) ?_
  refine rdx (rd_fieldAddr Tryz.field40_2 rfl) ?_
  refine rdx (rd_fieldAddr Tryz.field27_1 rfl) ?_
  refine rdx (rd_fieldAddr Tryz.field40_3 rfl) ?_
  refine rdx (rd_fieldAddr Tryz.field28_0 rfl) ?_
  refine rdx (rd_fieldAddr Tryz.field40_3 rfl) ?_
  refine rdx (rd_fieldAddr Tryz.field28_1 rfl) ?_
  refine rdx (rd_builda (cs := [.pointer _, .pointer _, .pointer _, .pointer _, .pointer _, .pointer _]) Tryz.under119 Tryz.size118 Tryz.zero119 rfl rfl) ?_
  refine rdx (rd_move (v := .int _ _) rfl) ?_
  refine TO.nil (TQ.then_normal (T.block ?_))
  refine T.front1 ?_
  refine T.front1 ?_
  refine T.loop3 [0, 2, 3, 4, 5, 7, 23, 24, 38] (fun (j : Nat) (nums : List Int) (c : Nat) => [(39, .int .i64 (j : Nat))]) (fun (j : Nat) (nums : List Int) (c : Nat) => [own b4 #[.string (str s), .int .i64 ((c : Nat) : Int)] 115, own b10 (NC 6 nums).toArray 40]) (fun (j : Nat) (nums : List Int) (c : Nat) => rdNs s j b1n = some (nums, c) ∧ j ≤ 6) (fun (j : Nat) (nums : List Int) (c : Nat) => 6 - j) (0) ([]) (b1n) (⟨rfl, Nat.zero_le _⟩) (And.intro (rfl) (trivial)) (fun _ _ h => h) fun j nums c g1 hx1 => ?_
  obtain ⟨hns, hj⟩ := hx1
  have hnl : nums.length = j := rdNs_len hns
  refine T.seq (T.region ?_)
  refine rdx (rd_lss rfl rfl) ?_
  refine TO.nil (TQ.then_normal (T.seq ?_))
  refine T.cond rfl (fun h14 => ?_) (fun h14 => ?_)
  ·try simp only [nrm] at h14
   refine T.skip (TQ.then_normal (T.seq (T.block (T.seq (T.region ?_)))))
   refine rdx (rd_index_arr j (v := .pointer (some ⟨b10, j, none⟩)) Tryz.under119 Tryz.one118 Tryz.size118 rfl rfl rfl (by omega) (ptr6 (by omega))) ?_
   refine rdx (rd_assign (v := .pointer _) rfl) ?_
   refine TO.nil (TQ.then_normal (T.region ?_))
   refine rdx (rd_move (v := .pointer _) rfl) ?_
   refine rdx (rd_move (v := .pointer _) rfl) ?_
   refine TO.handX Tryz.enters69 rfl (c_rd_number _ _ _ hs) rfl rfl Reads0 (fun hp17 => ?_) (fun ⟨v, c1⟩ hv => ?_)
   ·refine TQ.block_panic ?_
    refine TQ.then_panic ?_
    refine TQ.then_panic ?_
    refine TQ.block_panic ?_
    refine TQ.then_panic ?_
    refine TQ.block_panic ?_
    refine TQ.then_panic ?_
    refine TQ.then_panic ?_
    refine TQ.block_panic ?_
    refine TQ.then_panic ?_
    have hd : decodeOf s = (wish0, [], 150) := dec3 hm hps (by omega) (by rw [rdP, hb, Option.bind_some, rdNs_none hns hp17 (by omega)]; rfl)
    refine TQ.front3 ?_
    refine TQ.front2 ?_
    refine TQ.front4 ?_
    exact TQ.panicD Tryz.enters68 (c_dec1_mends _ _ _ _ (by first | rfl | (rw [NC_len (by omega)])) _ _) rfl (none, 0) trivial (by rw [hd]; rfl) (fun S w h => by rw [hd]; exact one_seps nil_row) (res3 Tryz.results26 (Res.cells (cs := wishC wish0) Tryz.agg30 rfl (Has.own 0 rfl) rfl rfl) (Res.cell (v := .slice none 0 0) Tryz.one31 rfl (Has.own 1 rfl) rfl) (Res.cell (v := .int .i64 150) Tryz.one54 rfl (Has.own 2 rfl) rfl))
   refine rdx (rd_nilCheck rfl) ?_
   refine TO.front1 ?_
   refine TO.store0 (o := j) (cells' := (NC 6 (nums ++ [v])).toArray) (v := .int .i64 v) Tryz.size3 rfl rfl rfl (by exact over_num hnl (by omega)) (by rw [List.size_toArray, NC_len (by omega)]; omega) rfl ?_
   refine TO.nil (TQ.block_normal (TQ.then_normal (T.region ?_)))
   refine rdx (rd_add rfl rfl (w64 (by omega) (by omega))) ?_
   refine rdx (rd_move (v := .int _ _) rfl) ?_
   refine TO.nil ?_
   refine TQ.againk (j + 1, nums ++ [v], c1) ?_ ?_ (And.intro (rfl) (trivial)) (And.intro (rfl) (And.intro (rfl) (And.intro (rfl) (And.intro (rfl) (And.intro (rfl) (And.intro (rfl) (And.intro (rfl) (And.intro (rfl) (And.intro (rfl) (trivial)))))))))) (fun _ _ h => h.sel (js := [1, 0, 2, 3, 4, 5]) (by decide))
   ·exact ⟨by simp only [rdNs, hns, Option.bind_some, hv], by dsimp only; omega⟩
   ·first | omega | (dsimp only; omega)
  try simp only [nrm] at h14
  refine T.exit (TQ.then_exit (TQ.then_exit (TQ.block_out (TQ.then_normal (T.seq (T.region ?_))))))
  refine rdx (rd_move (v := .pointer _) rfl) ?_
  have hj6 : j = 6 := by omega
  have hle1 : c ≤ s.length := rdNs_le hns (rdK_next hb)
  refine TO.handX Tryz.enters71 rfl (c_rd_digest _ _ _ hs (by first | assumption | omega)) rfl rfl Reads0 (fun hp20 => ?_) (fun ⟨g, a2⟩ hg => ?_)
  ·refine TQ.then_panic ?_
   refine TQ.block_panic ?_
   refine TQ.then_panic ?_
   refine TQ.then_panic ?_
   refine TQ.block_panic ?_
   refine TQ.then_panic ?_
   have hd : decodeOf s = (wish0, [], 150) := dec3 hm hps (by omega) (by rw [rdP, hb, Option.bind_some, ← hj6, hns, Option.bind_some, hp20]; rfl)
   refine TQ.front3 ?_
   refine TQ.front2 ?_
   refine TQ.front4 ?_
   exact TQ.panicD Tryz.enters68 (c_dec1_mends _ _ _ _ (by first | rfl | (rw [NC_len (by omega)])) _ _) rfl (none, 0) trivial (by rw [hd]; rfl) (fun S w h => by rw [hd]; exact one_seps nil_row) (res3 Tryz.results26 (Res.cells (cs := wishC wish0) Tryz.agg30 rfl (Has.own 0 rfl) rfl rfl) (Res.cell (v := .slice none 0 0) Tryz.one31 rfl (Has.own 1 rfl) rfl) (Res.cell (v := .int .i64 150) Tryz.one54 rfl (Has.own 2 rfl) rfl))
  refine rdx (rd_fieldAddr Tryz.field40_4 rfl) ?_
  refine TO.front1 ?_
  refine TO.own_eq (cells' := proxyC (proxyOf nums [])) (by rw [NC6 (by omega)]; rfl) ?_
  refine TO.store0 (cells' := #[.int _ _, .int _ _, .int _ _, .int _ _, .int _ _, .int _ _, .string _]) Tryz.size9 rfl (v := .string _) rfl rfl rfl (Nat.le_of_ble_eq_true rfl) rfl ?_
  refine TO.nil (TQ.then_normal (T.region ?_))
  refine rdx (rd_load (v := .slice _ _ _) Tryz.one31 rfl (Has.own 2 rfl) rfl) ?_
  refine rdx (rd_load_agg (cs := proxyC (proxyOf nums g)) Tryz.agg40 rfl (Has.own 0 rfl) rfl rfl) ?_
  refine TO.buildS (cs := [.int _ _, .int _ _, .int _ _, .int _ _, .int _ _, .int _ _, .string _]) Tryz.under31 Tryz.size40 Tryz.zero40 (Nat.le_of_ble_eq_true rfl) rfl (fun b21 => ?_)
  refine TO.front4 ?_
  refine TO.app Tryz.trow40 Tryz.under31 (.inl ⟨_, Tryz.under31⟩) rfl rfl (Src.own1 1 rfl rfl) rfl rfl (by omega) (fun A22 c23 hc24 => ?_)
  refine TO.row_eq (k' := k + 1) (cs' := (l ++ [proxyOf nums g]).flatMap proxyL) rfl (by rw [List.flatMap_append]; rfl) ?_
  refine TO.front4 ?_
  refine TO.store0 (cells' := #[.slice _ _ _]) Tryz.size31 rfl (v := .slice _ _ _) rfl rfl rfl (Nat.le_of_ble_eq_true rfl) rfl ?_
  refine TO.nil (TQ.block_normal (TQ.then_normal (T.region ?_)))
  refine rdx (rd_add rfl rfl (w64 (by omega) (by omega))) ?_
  refine rdx (rd_move (v := .int _ _) rfl) ?_
  refine TO.nil ?_
  refine TQ.againk (A22, c23, k + 1, l ++ [proxyOf nums g], a2) ?_ ?_ (And.intro (rfl) (trivial)) (And.intro (rfl) (And.intro (rfl) (And.intro (rfl) (And.intro (rfl) (And.intro (rfl) (And.intro (rfl) (trivial))))))) (fun _ _ h => h.sel (js := [4, 0, 1, 5, 6]) (by decide))
  ·refine ⟨?_, by dsimp only; rw [List.length_append, hlk]; rfl, by dsimp only; omega⟩
   simp only [rdPs, hps, Option.bind_some, rdP, hb, ← hj6, hns, hg]
  ·first | omega | (dsimp only; omega)
 try simp only [nrm] at h9
 refine T.exit (TQ.then_exit (TQ.then_exit (TQ.block_out (TQ.then_normal (T.seq (T.region ?_))))))
 refine rdx (rd_move (v := .pointer _) rfl) ?_
 refine TO.handX Tryz.enters70 rfl (c_rd_kind _ _ _ hs _) rfl rfl Reads0 (fun hp27 => ?_) (fun b2n hb2 => ?_)
 ·refine TQ.then_panic ?_
  have hd : decodeOf s = (wish0, [], 150) := dec4 hm hps (by omega) (by rw [rdW, hp27]; rfl)
  refine TQ.front2 ?_
  refine TQ.front1 ?_
  refine TQ.front3 ?_
  exact TQ.panicD Tryz.enters68 (c_dec1_mends _ _ _ _ (by first | rfl | (rw [NC_len (by omega)])) _ _) rfl (none, 0) trivial (by rw [hd]; rfl) (fun S w h => by rw [hd]; exact one_seps nil_row) (res3 Tryz.results26 (Res.cells (cs := wishC wish0) Tryz.agg30 rfl (Has.own 0 rfl) rfl rfl) (Res.cell (v := .slice none 0 0) Tryz.one31 rfl (Has.own 1 rfl) rfl) (Res.cell (v := .int .i64 150) Tryz.one54 rfl (Has.own 2 rfl) rfl))
 refine TO.nil (TQ.then_normal (T.seq (T.seq (T.region ?_))))
 refine rdx (rd_fieldAddr Tryz.field30_0 rfl) ?_
 refine rdx (rd_fieldAddr Tryz.field30_1 rfl) ?_
 refine rdx (rd_fieldAddr Tryz.field30_2 rfl) ?_
 refine rdx (rd_fieldAddr Tryz.field27_0 rfl) ?_
 refine rdx (rd_fieldAddr Tryz.field30_2 rfl) ?_
 refine rdx (rd_fieldAddr Tryz.field27_1 rfl) ?_
 refine rdx (rd_fieldAddr Tryz.field30_3 rfl) ?_
 refine rdx (rd_fieldAddr Tryz.field30_4 rfl) ?_
 refine rdx (rd_fieldAddr Tryz.field30_5 rfl) ?_
 refine rdx (rd_fieldAddr Tryz.field28_0 rfl) ?_
 refine rdx (rd_fieldAddr Tryz.field30_5 rfl) ?_
 refine rdx (rd_fieldAddr Tryz.field28_1 rfl) ?_
 refine rdx (rd_builda (cs := [.pointer _, .pointer _, .pointer _, .pointer _, .pointer _, .pointer _, .pointer _, .pointer _]) Tryz.under120 Tryz.size118 Tryz.zero120 rfl rfl) ?_
 refine rdx (rd_move (v := .int _ _) rfl) ?_
 refine TO.nil (TQ.then_normal (T.block ?_))
 refine T.front4 ?_
 refine T.front1 ?_
 refine T.loop3 [0, 2, 3, 4, 5, 69] (fun (j : Nat) (nums : List Int) (c : Nat) => [(70, .int .i64 (j : Nat))]) (fun (j : Nat) (nums : List Int) (c : Nat) => [own b4 #[.string (str s), .int .i64 ((c : Nat) : Int)] 115, own b1 (NC 8 nums).toArray 30]) (fun (j : Nat) (nums : List Int) (c : Nat) => rdNs s j b2n = some (nums, c) ∧ j ≤ 8) (fun (j : Nat) (nums : List Int) (c : Nat) => 8 - j) (0) ([]) (b2n) (⟨rfl, Nat.zero_le _⟩) (And.intro (rfl) (trivial)) (fun _ _ h => h) fun j nums c g2 hx2 => ?_
 obtain ⟨hns, hj⟩ := hx2
 have hnl : nums.length = j := rdNs_len hns
 refine T.seq (T.region ?_)
 refine rdx (rd_lss rfl rfl) ?_
 refine TO.nil (TQ.then_normal (T.seq ?_))
 refine T.cond rfl (fun h28 => ?_) (fun h28 => ?_)
 ·try simp only [nrm] at h28
  refine T.skip (TQ.then_normal (T.seq (T.block (T.seq (T.region ?_)))))
  refine rdx (rd_index_arr j (v := .pointer (some ⟨b1, j, none⟩)) Tryz.under120 Tryz.one118 Tryz.size118 rfl rfl rfl (by omega) (ptr8 (by omega))) ?_
  refine rdx (rd_assign (v := .pointer _) rfl) ?_
  refine TO.nil (TQ.then_normal (T.region ?_))
  refine rdx (rd_move (v := .pointer _) rfl) ?_
  refine rdx (rd_move (v := .pointer _) rfl) ?_
  refine TO.handX Tryz.enters69 rfl (c_rd_number _ _ _ hs) rfl rfl Reads0 (fun hp31 => ?_) (fun ⟨v2, c2⟩ hv2 => ?_)
  ·refine TQ.block_panic ?_
   refine TQ.then_panic ?_
   refine TQ.then_panic ?_
   refine TQ.block_panic ?_
   refine TQ.then_panic ?_
   have hd : decodeOf s = (wish0, [], 150) := dec4 hm hps (by omega) (by rw [rdW, hb2, Option.bind_some, rdNs_none hns hp31 (by omega)]; rfl)
   refine TQ.front3 ?_
   refine TQ.front2 ?_
   refine TQ.front2 ?_
   exact TQ.panicD Tryz.enters68 (c_dec1_mends _ _ _ _ (by first | rfl | (rw [NC_len (by omega)])) _ _) rfl (none, 0) trivial (by rw [hd]; rfl) (fun S w h => by rw [hd]; exact one_seps nil_row) (res3 Tryz.results26 (Res.cells (cs := wishC wish0) Tryz.agg30 rfl (Has.own 0 rfl) rfl rfl) (Res.cell (v := .slice none 0 0) Tryz.one31 rfl (Has.own 1 rfl) rfl) (Res.cell (v := .int .i64 150) Tryz.one54 rfl (Has.own 2 rfl) rfl))
  refine rdx (rd_nilCheck rfl) ?_
  refine TO.front1 ?_
  refine TO.store0 (o := j) (cells' := (NC 8 (nums ++ [v2])).toArray) (v := .int .i64 v2) Tryz.size3 rfl rfl rfl (by exact over_num hnl (by omega)) (by rw [List.size_toArray, NC_len (by omega)]; omega) rfl ?_
  refine TO.nil (TQ.block_normal (TQ.then_normal (T.region ?_)))
  refine rdx (rd_add rfl rfl (w64 (by omega) (by omega))) ?_
  refine rdx (rd_move (v := .int _ _) rfl) ?_
  refine TO.nil ?_
  refine TQ.againk (j + 1, nums ++ [v2], c2) ?_ ?_ (And.intro (rfl) (trivial)) (And.intro (rfl) (And.intro (rfl) (And.intro (rfl) (And.intro (rfl) (And.intro (rfl) (And.intro (rfl) (trivial))))))) (fun _ _ h => h.sel (js := [1, 0, 2, 3, 4]) (by decide))
  ·exact ⟨by simp only [rdNs, hns, Option.bind_some, hv2], by dsimp only; omega⟩
  ·first | omega | (dsimp only; omega)
 try simp only [nrm] at h28
 refine T.exit (TQ.then_exit (TQ.then_exit (TQ.block_out (TQ.then_normal (T.seq (T.region ?_))))))
 refine rdx (rd_move (v := .pointer _) rfl) ?_
 have hj8 : j = 8 := by omega
 have hle2 : c ≤ s.length := rdNs_le hns (rdK_next hb2)
 refine TO.handX Tryz.enters71 rfl (c_rd_digest _ _ _ hs (by first | assumption | omega)) rfl rfl Reads0 (fun hp34 => ?_) (fun ⟨g2, a3⟩ hg2 => ?_)
 ·refine TQ.then_panic ?_
  have hd : decodeOf s = (wish0, [], 150) := dec4 hm hps (by omega) (by rw [rdW, hb2, Option.bind_some, ← hj8, hns, Option.bind_some, hp34]; rfl)
  refine TQ.front3 ?_
  refine TQ.front2 ?_
  refine TQ.front2 ?_
  exact TQ.panicD Tryz.enters68 (c_dec1_mends _ _ _ _ (by first | rfl | (rw [NC_len (by omega)])) _ _) rfl (none, 0) trivial (by rw [hd]; rfl) (fun S w h => by rw [hd]; exact one_seps nil_row) (res3 Tryz.results26 (Res.cells (cs := wishC wish0) Tryz.agg30 rfl (Has.own 0 rfl) rfl rfl) (Res.cell (v := .slice none 0 0) Tryz.one31 rfl (Has.own 1 rfl) rfl) (Res.cell (v := .int .i64 150) Tryz.one54 rfl (Has.own 2 rfl) rfl))
 refine rdx (rd_fieldAddr Tryz.field30_6 rfl) ?_
 refine TO.front1 ?_
 refine TO.own_eq (cells' := wishC (wishOf nums [])) (by rw [NC8 (by omega)]; rfl) ?_
 refine TO.store0 (cells' := #[.int _ _, .int _ _, .int _ _, .int _ _, .int _ _, .int _ _, .int _ _, .int _ _, .string _]) Tryz.size9 rfl (v := .string _) rfl rfl rfl (Nat.le_of_ble_eq_true rfl) rfl ?_
 refine TO.nil (TQ.then_normal (T.seq (T.seq (T.region ?_))))
 refine rdx (rd_move (v := .pointer _) rfl) ?_
 have hW : rdW s a = some (wishOf nums g2, a3) := by simp only [rdW, hb2, Option.bind_some, ← hj8, hns, hg2]
 refine rdx (rd_nilCheck rfl) ?_
 refine rdx (rd_fieldAddr Tryz.field115_1 rfl) ?_
 refine rdx (rd_load (v := .int _ _) Tryz.one3 rfl (Has.own 1 rfl) rfl) ?_
 refine rdx (rd_move (v := .string _) rfl) ?_
 refine rdx (rd_lens' Tryz.under9 rfl) ?_
 refine rdx (rd_lss rfl rfl) ?_
 refine rdx (rd_move (v := .bool _) rfl) ?_
 refine TO.decide (s := 88) rfl (fun h35 => ?_) (fun h35 => ?_)
 ·try simp only [nrm] at h35
  refine TO.guard_false (s := 88) (b' := true) rfl rfl nofun ?_
  refine TO.guard_false (s := 88) (b' := true) rfl rfl nofun ?_
  refine TO.guard_false (s := 88) (b' := true) rfl rfl nofun ?_
  refine TO.guard_false (s := 88) (b' := true) rfl rfl nofun ?_
  refine rdx (rd_pick_true (v := .bool _) rfl rfl) ?_
  refine TO.nil (TQ.then_normal ?_)
  refine T.cond_true rfl ?_
  refine T.region ?_
  refine rdx (rd_build (cs := []) Tryz.places112 Tryz.zero112 rfl rfl) ?_
  refine rdx (rd_makeIface' Tryz.notif112 rfl) ?_
  refine TO.panic rfl ?_
  refine TQ.then_panic ?_
  have hd : decodeOf s = (wish0, [], 150) := by rw [dec5 hm hwt hps (by omega) hW, if_pos (.inl (by omega))]
  refine TQ.front4 ?_
  refine TQ.front3 ?_
  refine TQ.front2 ?_
  exact TQ.panicD Tryz.enters68 (c_dec1_mends _ _ _ _ (by first | rfl | (rw [NC_len (by omega)])) _ _) rfl (none, 0) trivial (by rw [hd]; rfl) (fun S w h => by rw [hd]; exact one_seps nil_row) (res3 Tryz.results26 (Res.cells (cs := wishC wish0) Tryz.agg30 rfl (Has.own 0 rfl) rfl rfl) (Res.cell (v := .slice none 0 0) Tryz.one31 rfl (Has.own 1 rfl) rfl) (Res.cell (v := .int .i64 150) Tryz.one54 rfl (Has.own 2 rfl) rfl))
 try simp only [nrm] at h35
 refine TO.guard_true (s := 88) rfl rfl ?_
 refine rdx (rd_load_agg (cs := #[.int _ _, .int _ _, .int _ _, .int _ _, .int _ _, .int _ _, .int _ _, .int _ _, .string _]) Tryz.agg30 rfl (Has.own 0 rfl) rfl rfl) ?_
 refine TO.guard_true (s := 88) rfl rfl ?_
 refine rdx (rd_load (v := .slice _ _ _) Tryz.one31 rfl (Has.own 2 rfl) rfl) ?_
 refine TO.guard_true (s := 88) rfl rfl ?_
 refine TO.fn Tryz.enters17 (c_wish_Formed (wishOf nums g2) _ _ _ l (by first | rfl | simp | omega) (by first | omega | assumption | simp)) rfl (ReadsC (row_slc' (e := proxyL) (xs := l) (fun _ => rfl) (hlk.symm) (rfl) (Has.own 3 rfl)) Reads0) ?_
 refine TO.guard_true (s := 88) rfl rfl ?_
 refine rdx (rd_not rfl) ?_
 refine rdx (rd_pick_false (v := .bool _) rfl rfl) ?_
 refine TO.nil (TQ.then_normal ?_)
 refine T.cond rfl (fun h36 => ?_) (fun h36 => ?_)
 ·try simp only [nrm] at h36
  refine T.region ?_
  refine rdx (rd_build (cs := []) Tryz.places112 Tryz.zero112 rfl rfl) ?_
  refine rdx (rd_makeIface' Tryz.notif112 rfl) ?_
  refine TO.panic rfl ?_
  refine TQ.then_panic ?_
  have hd : decodeOf s = (wish0, [], 150) := by rw [dec5 hm hwt hps (by omega) hW, if_pos (.inr h36)]
  refine TQ.front4 ?_
  refine TQ.front3 ?_
  refine TQ.front2 ?_
  exact TQ.panicD Tryz.enters68 (c_dec1_mends _ _ _ _ (by first | rfl | (rw [NC_len (by omega)])) _ _) rfl (none, 0) trivial (by rw [hd]; rfl) (fun S w h => by rw [hd]; exact one_seps nil_row) (res3 Tryz.results26 (Res.cells (cs := wishC wish0) Tryz.agg30 rfl (Has.own 0 rfl) rfl rfl) (Res.cell (v := .slice none 0 0) Tryz.one31 rfl (Has.own 1 rfl) rfl) (Res.cell (v := .int .i64 150) Tryz.one54 rfl (Has.own 2 rfl) rfl))
 try simp only [nrm] at h36
 refine T.skip (TQ.then_normal (T.seq ?_))
 refine T.drawq Tryz.mixes 3 [(96, 0), (97, 1)] [0, 0, 1, 7, 15] (by kernel_rfl) ?_
 refine DQ.rd rfl rfl (fun _ => rd_load_agg (cs := #[.int _ _, .int _ _, .int _ _, .int _ _, .int _ _, .int _ _, .int _ _, .int _ _, .string _]) Tryz.agg30 rfl (Has.own 0 rfl) rfl rfl) ?_
 refine DQ.rd rfl rfl (fun _ => rd_load (v := .slice _ _ _) Tryz.one31 rfl (Has.own 2 rfl) rfl) ?_
 refine DQ.self (jj := 0) (cs := wishL (wishOf nums g2)) rfl Tryz.size30 (fun _ => rfl) (fun _ => rfl) rfl rfl rfl ?_
 refine DQ.done rfl ?_
 refine TO.front2 ?_
 refine TO.store0 (cells' := #[.slice _ _ _]) Tryz.size31 rfl (v := .slice _ _ _) rfl rfl rfl (Nat.le_of_ble_eq_true rfl) rfl ?_
 refine TO.front4 ?_
 refine TO.store0 (cells' := #[.int _ _]) Tryz.size54 rfl (v := .int _ _) rfl rfl rfl (Nat.le_of_ble_eq_true rfl) rfl ?_
 refine TO.nil (TQ.then_normal (T.ret ?_))
 have hd : decodeOf s = (wishOf nums g2, l, 0) := by rw [dec5 hm hwt hps (by omega) hW, if_neg (by rintro (h' | h') <;> first | omega | simp_all)]
 refine TQ.doneD Tryz.enters68 (c_dec1_calm _ _ _) ((A, cap)) (trivial) ?_ (fun _ _ h => by rw [hd]; exact seps_row 4 rfl hlk.symm rfl h) (res3 Tryz.results26 (Res.cells (cs := #[.int _ _, .int _ _, .int _ _, .int _ _, .int _ _, .int _ _, .int _ _, .int _ _, .string _]) Tryz.agg30 rfl (Has.own 2 rfl) rfl rfl) (Res.cell (v := .slice _ _ _) Tryz.one31 rfl (Has.own 1 rfl) rfl) (Res.cell (v := .int _ _) Tryz.one54 rfl (Has.own 0 rfl) rfl)) _ (.inl rfl)
 rw [hd, ← hlk]; rfl
end Go.Proofs
end
section
set_option linter.unusedVariables false
set_option linter.unusedSimpArgs false
set_option maxRecDepth 100000
set_option maxHeartbeats 800000
namespace Go.Proofs
open Go.TL
attribute [local irreducible] Go.TL.T Go.TL.TO Go.TL.TQ
theorem Tryz.trow9 : TyRow Tryz.prog 9 1 16 := tyRow_of (by kernel_rfl)
theorem Tryz.zero9 : TyZero Tryz.prog 9 (.string ⟨#[]⟩) := fun w => by kernel_rfl
end Go.Proofs
end
section
set_option linter.unusedVariables false
set_option linter.unusedSimpArgs false
set_option maxRecDepth 100000
set_option maxHeartbeats 800000
namespace Go.Proofs
open Go.TL
attribute [local irreducible] Go.TL.T Go.TL.TO Go.TL.TQ
theorem Tryz.enters55 : Enters Tryz.prog 55 := fun args w => by kernel_rfl
theorem Tryz.enters56 : Enters Tryz.prog 56 := fun args w => by kernel_rfl
theorem Tryz.enters58 : Enters Tryz.prog 58 := fun args w => by kernel_rfl
end Go.Proofs
end
section
set_option linter.unusedVariables false
set_option linter.unusedSimpArgs false
set_option maxRecDepth 100000
set_option maxHeartbeats 800000
namespace Go.Proofs
open Go.TL
attribute [local irreducible] Go.TL.T Go.TL.TO Go.TL.TQ
end Go.Proofs
end
section
set_option linter.unusedVariables false
set_option linter.unusedSimpArgs false
set_option maxRecDepth 100000
set_option maxHeartbeats 800000
namespace Go.Proofs
open Go.TL
attribute [local irreducible] Go.TL.T Go.TL.TO Go.TL.TQ
theorem Tryz.isome137 : (Tryz.prog.underlying 137).isSome = true := by kernel_rfl
theorem Tryz.one137 : TyOne Tryz.prog 137 := ⟨fun w => by kernel_rfl, fun w => by kernel_rfl⟩
theorem Tryz.size137 : ∀ w, (sizeOf 137).run Tryz.prog w = .ok 1 w := fun w => by kernel_rfl
theorem Tryz.under138 : Tryz.prog.underlying 138 = some (.slice 137) := by kernel_rfl
theorem Tryz.zero137 : TyZero Tryz.prog 137 (.int .u32 0) := fun w => by kernel_rfl
theorem Tryz.enters78 : Enters Tryz.prog 78 := fun args w => by kernel_rfl
theorem Tryz.enters79 : Enters Tryz.prog 79 := fun args w => by kernel_rfl
theorem Tryz.enters91 : Enters Tryz.prog 91 := fun args w => by kernel_rfl
theorem Tryz.enters97 : Enters Tryz.prog 97 := fun args w => by kernel_rfl
theorem Tryz.enters98 : Enters Tryz.prog 98 := fun args w => by kernel_rfl
end Go.Proofs
end
section
set_option linter.unusedVariables false
set_option linter.unusedSimpArgs false
set_option maxRecDepth 100000
set_option maxHeartbeats 800000
namespace Go.Proofs
open Go.TL
attribute [local irreducible] Go.TL.T Go.TL.TO Go.TL.TQ
theorem Tryz.one5 : TyOne Tryz.prog 5 := ⟨fun w => by kernel_rfl, fun w => by kernel_rfl⟩
theorem Tryz.trow137 : TyRow Tryz.prog 137 1 4 := tyRow_of (by kernel_rfl)
theorem Tryz.under137 : Tryz.prog.underlying 137 = some (.int .u32) := by kernel_rfl
theorem Tryz.enters103 : Enters Tryz.prog 103 := fun args w => by kernel_rfl
theorem Tryz.enters104 : Enters Tryz.prog 104 := fun args w => by kernel_rfl
end Go.Proofs
end
section
set_option linter.unusedVariables false
set_option linter.unusedSimpArgs false
set_option maxRecDepth 100000
set_option maxHeartbeats 800000
namespace Go.Proofs
open Go.TL
attribute [local irreducible] Go.TL.T Go.TL.TO Go.TL.TQ
end Go.Proofs
end
section
set_option linter.unusedVariables false
set_option linter.unusedSimpArgs false
set_option maxRecDepth 100000
set_option maxHeartbeats 800000
namespace Go.Proofs
open Go.TL
attribute [local irreducible] Go.TL.T Go.TL.TO Go.TL.TQ
theorem c_ref02_rotated (x : UInt32) (n : Nat) (h0 : 0 < n) (h : n < 32) : Cv Tryz.prog 103 #[.int .u32 x.toNat, .int .i64 (n : Nat)] [] (.int .u32 (rotr x n).toNat) := by
 refine Ctr.intro Tryz.func103 rfl Tryz.ntmps103 (Nat.le_of_ble_eq_true rfl) fun S0 w0 => ?_
 refine T.seq (T.region ?_)
 refine rdx (rd_assign (v := .int _ _) rfl) ?_
 refine TO.nil (TQ.then_normal (T.seq ?_))
 refine T.drawq Tryz.mixes 7 [(5, 0), (6, 1), (7, 2), (8, 3), (9, 4), (10, 5), (11, 6)] [0, 0, 3, 0, 0, 16, 56, 127, 255] (by kernel_rfl) ?_
 refine DQ.rd rfl rfl (fun _ => rd_move (v := .int _ _) rfl) ?_
 refine DQ.rd rfl rfl (fun _ => rd_move (v := .int _ _) rfl) ?_
 refine DQ.rd rfl rfl (fun _ => rd_shr32 (k := n) rfl rfl (rfl) (h)) ?_
 refine DQ.rd rfl rfl (fun _ => rd_move (v := .int _ _) rfl) ?_
 refine DQ.rd rfl rfl (fun _ => rd_move (v := .int _ _) rfl) ?_
 refine DQ.rd rfl rfl (fun _ => rd_sub rfl rfl (w64 (by omega) (by omega))) ?_
 refine DQ.rd rfl rfl (fun _ => rd_shl32 (k := (32 - n)) rfl rfl (by omega) (by omega)) ?_
 refine DQ.done rfl ?_
 refine rdx (rd_or32 rfl rfl) ?_
 refine rdx (rd_assign (v := .int _ _) rfl) ?_
 refine TO.nil (TQ.then_normal (T.ret ?_))
 refine TQ.value ?_ (res1 Tryz.results103 (Res.tmp (v := .int _ _) rfl)) _ (.inl rfl)
 rfl
theorem c_ref02_constants  : Ctr Tryz.prog 104 #[] [] [] (γ := Option Addr × Nat) (fun x => True) (fun x => .slice x.1 64 x.2) (fun x => [row 137 1 x.1 64 x.2 (shaK.flatMap eW)]) := by
 refine Ctr.intro Tryz.func104 rfl Tryz.ntmps104 (Nat.le_of_ble_eq_true rfl) fun S0 w0 => ?_
 refine T.seq (T.region ?_)
 refine rdx (rd_assign (v := .slice _ _ _) rfl) ?_
 refine TO.nil (TQ.then_normal (T.seq (T.region ?_)))
 refine TO.buildS (cs := [.int .u32 1116352408, .int .u32 1899447441, .int .u32 3049323471, .int .u32 3921009573, .int .u32 961987163, .int .u32 1508970993, .int .u32 2453635748, .int .u32 2870763221, .int .u32 3624381080, .int .u32 310598401, .int .u32 607225278, .int .u32 1426881987, .int .u32 1925078388, .int .u32 2162078206, .int .u32 2614888103, .int .u32 3248222580, .int .u32 3835390401, .int .u32 4022224774, .int .u32 264347078, .int .u32 604807628, .int .u32 770255983, .int .u32 1249150122, .int .u32 1555081692, .int .u32 1996064986, .int .u32 2554220882, .int .u32 2821834349, .int .u32 2952996808, .int .u32 3210313671, .int .u32 3336571891, .int .u32 3584528711, .int .u32 113926993, .int .u32 338241895, .int .u32 666307205, .int .u32 773529912, .int .u32 1294757372, .int .u32 1396182291, .int .u32 1695183700, .int .u32 1986661051, .int .u32 2177026350, .int .u32 2456956037, .int .u32 2730485921, .int .u32 2820302411, .int .u32 3259730800, .int .u32 3345764771, .int .u32 3516065817, .int .u32 3600352804, .int .u32 4094571909, .int .u32 275423344, .int .u32 430227734, .int .u32 506948616, .int .u32 659060556, .int .u32 883997877, .int .u32 958139571, .int .u32 1322822218, .int .u32 1537002063, .int .u32 1747873779, .int .u32 1955562222, .int .u32 2024104815, .int .u32 2227730452, .int .u32 2361852424, .int .u32 2428436474, .int .u32 2756734187, .int .u32 3204031479, .int .u32 3329325298]) Tryz.under138 Tryz.size137 Tryz.zero137 (Nat.le_of_ble_eq_true rfl) (by kernel_rfl) (fun b1 => ?_)
 refine rdx (rd_assign (v := .slice _ _ _) rfl) ?_
 refine TO.nil (TQ.then_normal (T.ret ?_))
 refine TQ.done ((some ⟨b1, 0, none⟩, 64)) (trivial) ?_ (fun _ _ => seps_lit 0 1 64 rfl rfl (by decide) (by kernel_rfl)) (res1 Tryz.results104 (Res.tmp (v := .slice _ _ _) rfl)) _ (.inl rfl)
 rfl
theorem c_ref02_extended (s : Bytes) (hs : s.length ≤ 1000000000000) : Ctr Tryz.prog 97 #[.string (str s)] [] [] (γ := Option Addr × Nat) (fun x => (pad s).length ≤ x.2) (fun x => .slice x.1 (pad s).length x.2) (fun x => [row 5 1 x.1 (pad s).length x.2 (bytesC (pad s))]) := by
 refine Ctr.intro Tryz.func97 rfl Tryz.ntmps97 (Nat.le_of_ble_eq_true rfl) fun S0 w0 => ?_
 refine T.seq (T.region ?_)
 refine rdx (rd_assign (v := .slice none 0 0) rfl) ?_
 refine TO.newrow 5 1 ?_
 refine TO.nil (TQ.then_normal (T.seq (T.region ?_)))
 refine rdx (rd_assign (v := .slice none 0 0) rfl) ?_
 refine TO.newrow 5 1 ?_
 refine TO.nil (TQ.then_normal (T.seq (T.seq (T.region ?_))))
 refine rdx (rd_assign (v := .int _ _) rfl) ?_
 refine TO.nil (TQ.then_normal (T.block ?_))
 refine T.loop3 [0] (fun (A : Option Addr) (cap : Nat) (k : Nat) => [(3, .slice A k cap), (4, .int .i64 (k : Nat))]) (fun (A : Option Addr) (cap : Nat) (k : Nat) => [row 5 1 A k cap (bytesC (s.take k))]) (fun (A : Option Addr) (cap : Nat) (k : Nat) => k ≤ s.length) (fun (A : Option Addr) (cap : Nat) (k : Nat) => s.length - k) (none) (0) (0) (Nat.zero_le _) (And.intro (rfl) (And.intro (rfl) (trivial))) (fun _ _ h => h) fun A cap k g0 hx0 => ?_
 refine T.seq (T.seq (T.region ?_))
 refine rdx (rd_move (v := .int _ _) rfl) ?_
 refine rdx (rd_move (v := .string _) rfl) ?_
 refine rdx (rd_lens' Tryz.under9 rfl) ?_
 refine rdx (rd_lss rfl rfl) ?_
 refine TO.nil (TQ.then_normal ?_)
 refine T.cond rfl (fun h3 => ?_) (fun h3 => ?_)
 ·try simp only [nrm] at h3
  refine T.skip (TQ.then_normal (T.seq (T.block (T.region ?_))))
  refine rdx (rd_move (v := .slice _ _ _) rfl) ?_
  refine rdx (rd_move (v := .string _) rfl) ?_
  refine rdx (rd_move (v := .int _ _) rfl) ?_
  refine rdx (rd_idxs Tryz.under9 rfl rfl rfl (by omega)) ?_
  refine TO.buildS (cs := [.int _ _]) Tryz.under62 Tryz.size5 Tryz.zero5 (Nat.le_of_ble_eq_true rfl) rfl (fun b4 => ?_)
  refine TO.front1 ?_
  refine TO.app Tryz.trow5 Tryz.under62 (.inl ⟨_, Tryz.under62⟩) rfl rfl (Src.own1 1 rfl rfl) rfl rfl (by omega) (fun A5 c6 hc7 => ?_)
  refine TO.row_eq (cs' := bytesC (s.take (k + 1))) rfl (by rw [← take_snoc (by omega), bytesC_append]; rfl) ?_
  refine rdx (rd_assign (v := .slice _ _ _) rfl) ?_
  refine TO.nil (TQ.block_normal (TQ.then_normal (T.region ?_)))
  refine rdx (rd_move (v := .int _ _) rfl) ?_
  refine rdx (rd_add rfl rfl (w64 (by omega) (by omega))) ?_
  refine rdx (rd_assign (v := .int _ _) rfl) ?_
  refine TO.nil ?_
  refine TQ.againk (A5, c6, k + 1) ?_ ?_ (And.intro (rfl) (And.intro (rfl) (trivial))) (And.intro (rfl) (trivial)) (fun _ _ h => h.sel (js := [0, 2]) (by decide))
  ·first | omega | (dsimp only; omega)
  ·first | omega | (dsimp only; omega)
 try simp only [nrm] at h3
 refine T.exit (TQ.then_exit (TQ.then_exit (TQ.block_out (TQ.then_normal (T.seq (T.region ?_))))))
 refine rdx (rd_move (v := .slice _ _ _) rfl) ?_
 refine TO.buildS (cs := [.int _ _]) Tryz.under62 Tryz.size5 Tryz.zero5 (Nat.le_of_ble_eq_true rfl) rfl (fun b8 => ?_)
 refine TO.front1 ?_
 refine TO.app Tryz.trow5 Tryz.under62 (.inl ⟨_, Tryz.under62⟩) rfl rfl (Src.own1 1 rfl rfl) rfl rfl (by omega) (fun A9 c10 hc11 => ?_)
 refine TO.row_eq (cs' := bytesC (s ++ [128] ++ List.replicate 0 0)) rfl (by rw [List.take_of_length_le (by omega)]; simp [bytesC_append]; rfl) ?_
 refine rdx (rd_assign (v := .slice _ _ _) rfl) ?_
 refine TO.nil (TQ.then_normal (T.seq (T.block ?_)))
 refine T.loop4 [0] (fun (A : Option Addr) (cap : Nat) (m : Nat) (j : Nat) => [(3, .slice A m cap)]) (fun (A : Option Addr) (cap : Nat) (m : Nat) (j : Nat) => [row 5 1 A m cap (bytesC (s ++ [128] ++ List.replicate j 0))]) (fun (A : Option Addr) (cap : Nat) (m : Nat) (j : Nat) => m = s.length + 1 + j ∧ j ≤ zeros s.length ∧ m ≤ cap) (fun (A : Option Addr) (cap : Nat) (m : Nat) (j : Nat) => zeros s.length - j) (A9) (c10) (k + 1) (0) (⟨by omega, Nat.zero_le _, by omega⟩) (And.intro (rfl) (trivial)) (fun _ _ h => h) fun A cap m j g1 hx1 => ?_
 obtain ⟨hm, hj, hmc⟩ := hx1
 have hz63 : zeros s.length ≤ 63 := by simp only [zeros]; omega
 refine T.seq (T.seq (T.region ?_))
 refine rdx (rd_move (v := .slice _ _ _) rfl) ?_
 refine rdx (rd_lensl Tryz.under62 rfl) ?_
 refine rdx (rd_remn (m := 64) rfl rfl rfl (by decide)) ?_
 refine rdx (rd_neq rfl rfl) ?_
 refine TO.nil (TQ.then_normal ?_)
 refine T.cond rfl (fun h12 => ?_) (fun h12 => ?_)
 ·try simp only [nrm] at h12
  refine T.skip (TQ.then_normal (T.block (T.region ?_)))
  refine rdx (rd_move (v := .slice _ _ _) rfl) ?_
  refine TO.buildS (cs := [.int _ _]) Tryz.under62 Tryz.size5 Tryz.zero5 (Nat.le_of_ble_eq_true rfl) rfl (fun b13 => ?_)
  refine TO.front1 ?_
  refine TO.app Tryz.trow5 Tryz.under62 (.inl ⟨_, Tryz.under62⟩) rfl rfl (Src.own1 1 rfl rfl) rfl rfl (by omega) (fun A14 c15 hc16 => ?_)
  refine TO.row_eq (cs' := bytesC (s ++ [128] ++ List.replicate (j + 1) 0)) rfl (by rw [List.replicate_succ', ← List.append_assoc]; exact (bytesC_append (s ++ [128] ++ List.replicate j 0) [0]).symm) ?_
  refine rdx (rd_assign (v := .slice _ _ _) rfl) ?_
  refine TO.nil (TQ.block_normal ?_)
  refine TQ.againk (A14, c15, m + 1, j + 1) ?_ ?_ (And.intro (rfl) (trivial)) (And.intro (rfl) (trivial)) (fun _ _ h => h.sel (js := [0, 2, 3]) (by decide))
  ·refine ⟨?_, ?_, ?_⟩ <;> dsimp only <;> (try simp only [zeros] at *) <;> omega
  ·(try simp only [zeros] at *); omega
 try simp only [nrm] at h12
 refine T.exit (TQ.then_exit (TQ.then_exit (TQ.block_out (TQ.then_normal (T.seq (T.seq (T.region ?_)))))))
 refine rdx (rd_assign (v := .int _ _) rfl) ?_
 refine TO.nil (TQ.then_normal (T.block ?_))
 refine T.loop5 [0] (fun (A : Option Addr) (cap : Nat) (m : Nat) (l : Bytes) (i : Nat) => [(3, .slice A m cap), (5, .int .i64 ((i : Int) - 1))]) (fun (A : Option Addr) (cap : Nat) (m : Nat) (l : Bytes) (i : Nat) => [row 5 1 A m cap (bytesC l)]) (fun (A : Option Addr) (cap : Nat) (m : Nat) (l : Bytes) (i : Nat) => l ++ len8 s.length i = pad s ∧ m = l.length ∧ i ≤ 8 ∧ m ≤ cap) (fun (A : Option Addr) (cap : Nat) (m : Nat) (l : Bytes) (i : Nat) => i) (A) (cap) (m) (s ++ [128] ++ List.replicate j 0) (8) (⟨by rw [pad, show zeros s.length = j by simp only [zeros] at *; omega], by simp; omega, by omega, by omega⟩) (And.intro (rfl) (And.intro (rfl) (trivial))) (fun _ _ h => h) fun A cap m l i g2 hx2 => ?_
 obtain ⟨hl, hml, hi, hmc⟩ := hx2
 have hm2 : m ≤ s.length + 72 := by
  have := congrArg List.length hl
  simp only [pad, List.length_append, len8_len, List.length_replicate, List.length_cons, List.length_nil] at this
  omega
 refine T.seq (T.seq (T.region ?_))
 refine rdx (rd_move (v := .int _ _) rfl) ?_
 refine rdx (rd_geq rfl rfl) ?_
 refine TO.nil (TQ.then_normal ?_)
 refine T.cond_ft rfl (fun h17 => ?_) (fun h17 => ?_)
 ·try simp only [nrm] at h17
  refine T.exit (TQ.then_exit (TQ.then_exit (TQ.block_out (TQ.then_normal (T.seq (T.region ?_))))))
  refine rdx (rd_move (v := .slice _ _ _) rfl) ?_
  refine rdx (rd_assign (v := .slice _ _ _) rfl) ?_
  refine TO.nil (TQ.then_normal (T.ret ?_))
  refine TQ.done ((A, cap)) (by rw [← hl, show i = 0 by omega]; simp only [len8, List.append_nil]; omega) ?_ (fun _ _ => seps_row 0 rfl (by rw [← hl, show i = 0 by omega]; simpa [len8] using hml) (by rw [← hl, show i = 0 by omega]; simp [len8])) (res1 Tryz.results97 (Res.tmp (v := .slice _ _ _) rfl)) _ (.inl rfl)
  rw [← hl, show i = 0 by omega]; simp [len8, hml]
 try simp only [nrm] at h17
 refine T.skip (TQ.then_normal (T.seq (T.block (T.region ?_))))
 refine rdx (rd_move (v := .slice _ _ _) rfl) ?_
 refine rdx (rd_move (v := .string _) rfl) ?_
 refine rdx (rd_lens' Tryz.under9 rfl) ?_
 refine rdx (rd_mul rfl rfl (w64 (by omega) (by omega))) ?_
 refine rdx (rd_move (v := .int _ _) rfl) ?_
 refine rdx (rd_mul rfl rfl (w64 (by omega) (by omega))) ?_
 refine rdx (rd_shr rfl rfl (by omega) (fdiv_pow (a := 8 * s.length) (q := 8 * (i - 1)) (by omega) (by omega))) ?_
 refine rdx (rd_convert Tryz.isome3 Tryz.under5 rfl (wrap_u8 _)) ?_
 refine TO.buildS (cs := [.int _ _]) Tryz.under62 Tryz.size5 Tryz.zero5 (Nat.le_of_ble_eq_true rfl) rfl (fun b18 => ?_)
 refine TO.front1 ?_
 refine TO.app Tryz.trow5 Tryz.under62 (.inl ⟨_, Tryz.under62⟩) rfl rfl (Src.own1 1 rfl rfl) rfl rfl (by omega) (fun A19 c20 hc21 => ?_)
 refine TO.row_eq (cs' := bytesC (l ++ [UInt8.ofNat (8 * s.length / 2 ^ (8 * (i - 1)))])) rfl (by rw [bytesC_append]; simp [bytesC, UInt8.toNat_ofNat']) ?_
 refine rdx (rd_assign (v := .slice _ _ _) rfl) ?_
 refine TO.nil (TQ.block_normal (TQ.then_normal (T.region ?_)))
 refine rdx (rd_move (v := .int _ _) rfl) ?_
 refine rdx (rd_sub rfl rfl (w64 (by omega) (by omega))) ?_
 refine rdx (rd_assign (v := .int _ _) rfl) ?_
 refine TO.nil ?_
 refine TQ.againk (A19, c20, m + 1, l ++ [UInt8.ofNat (8 * s.length / 2 ^ (8 * (i - 1)))], i - 1) ?_ ?_ (And.intro (rfl) (And.intro (congrArg (Value.int .i64) (by first | omega | (dsimp only; omega))) (trivial))) (And.intro (rfl) (trivial)) (fun _ _ h => h.sel (js := [0, 2, 3]) (by decide))
 ·refine ⟨?_, by simp; omega, by dsimp only; omega, by dsimp only; omega⟩
  rw [← hl]
  obtain ⟨q, rfl⟩ : ∃ q, i = q + 1 := ⟨i - 1, by omega⟩
  simp [len8_succ]
 ·first | omega | (dsimp only; omega)
end Go.Proofs
end
section
set_option linter.unusedVariables false
set_option linter.unusedSimpArgs false
set_option maxRecDepth 100000
set_option maxHeartbeats 800000
namespace Go.Proofs
open Go.TL
attribute [local irreducible] Go.TL.T Go.TL.TO Go.TL.TQ
theorem c_ref02_block (A : Option Addr) (cap n : Nat) (l : List UInt32) (hn : n = l.length) (B : Option Addr) (capb m : Nat) (b : List UInt8) (hm : m = b.length) (h : H8) (hh : l = h.l) (hb : b.length = 64) : Ctr Tryz.prog 98 #[.slice A n cap, .slice B m capb] [slc eW 1 A l, slc eByte 1 B b] [] (γ := Option Addr × Nat) (fun x => True) (fun x => .slice x.1 8 x.2) (fun x => [row 137 1 x.1 8 x.2 ((shaBlock h b).l.flatMap eW)]) := by
 subst hn hm hh
 have hl8 : h.l.length = 8 := rfl
 refine Ctr.intro Tryz.func98 rfl Tryz.ntmps98 (Nat.le_of_ble_eq_true rfl) fun S0 w0 => ?_
 refine T.seq (T.region ?_)
 refine rdx (rd_assign (v := .slice none 0 0) rfl) ?_
 refine TO.newrow 137 1 ?_
 refine TO.nil (TQ.then_normal (T.seq (T.region ?_)))
 refine rdx (rd_assign (v := .slice none 0 0) rfl) ?_
 refine TO.newrow 137 1 ?_
 refine TO.nil (TQ.then_normal (T.seq (T.seq (T.region ?_))))
 refine rdx (rd_assign (v := .int _ _) rfl) ?_
 refine TO.nil (TQ.then_normal (T.block ?_))
 refine T.loop3 [0, 1] (fun (A1 : Option Addr) (cap1 : Nat) (k : Nat) => [(5, .slice A1 k cap1), (6, .int .i64 (k : Nat))]) (fun (A1 : Option Addr) (cap1 : Nat) (k : Nat) => [row 137 1 A1 k cap1 ((w16 b k).flatMap eW)]) (fun (A1 : Option Addr) (cap1 : Nat) (k : Nat) => k ≤ 16) (fun (A1 : Option Addr) (cap1 : Nat) (k : Nat) => 16 - k) (none) (0) (0) (Nat.zero_le _) (And.intro (rfl) (And.intro (rfl) (trivial))) (fun _ _ h => h) fun A1 cap1 k g0 hx0 => ?_
 refine T.seq (T.seq (T.region ?_))
 refine rdx (rd_move (v := .int _ _) rfl) ?_
 refine rdx (rd_lss rfl rfl) ?_
 refine TO.nil (TQ.then_normal ?_)
 refine T.cond rfl (fun h3 => ?_) (fun h3 => ?_)
 ·try simp only [nrm] at h3
  refine T.skip (TQ.then_normal (T.seq (T.block ?_)))
  refine T.drawg Tryz.mixes 35 [(23, 0), (24, 1), (25, 2), (26, 3), (27, 4), (28, 5), (29, 6), (30, 7), (31, 8), (32, 9), (33, 10), (34, 11), (35, 12), (36, 13), (37, 14), (38, 15), (39, 16), (40, 17), (41, 18), (42, 19), (43, 20), (44, 21), (45, 22), (46, 23), (47, 24), (48, 25), (49, 26), (50, 27), (51, 28), (52, 29), (53, 30), (54, 31), (55, 32), (56, 33), (57, 34)] [0, 0, 0, 4, 14, 30, 62, 126, 0, 0, 512, 1536, 3840, 7936, 16128, 32512, 65534, 0, 0, 262144, 786432, 1966080, 4063232, 8257536, 16646144, 33554430, 0, 0, 134217728, 402653184, 1006632960, 2080374784, 4227858432, 8589934590, 17179869182, 34359738367, 68719476735] [34] (by kernel_rfl) ?_
  refine DG.rd rfl rfl rfl (fun _ _ => rd_move (v := .slice _ _ _) rfl) ?_
  refine DG.rd rfl rfl rfl (fun _ _ => rd_move (v := .slice _ _ _) rfl) ?_
  refine DG.rd rfl rfl rfl (fun _ _ => rd_move (v := .int _ _) rfl) ?_
  refine DG.rd rfl rfl rfl (fun _ _ => rd_mul rfl rfl (w64 (by first | omega | ((try simp only [H8.len, shaK_len, sched_len, w16_len, List.length_take] at *); omega)) (by first | omega | ((try simp only [H8.len, shaK_len, sched_len, w16_len, List.length_take] at *); omega)))) ?_
  refine DG.rd rfl rfl rfl (fun _ _ => rd_ix (k := (4 * k)) Tryz.under62 Tryz.size5 rfl rfl (Has.arg 1 rfl) (by omega) (by first | omega | ((try simp only [H8.len, shaK_len, sched_len, w16_len, List.length_take] at *); omega)) (by omega)) ?_
  refine DG.rd rfl rfl rfl (fun _ _ => rd_el (v := .int _ _) (4 * k) 0 Tryz.one5 rfl (Has.arg 1 rfl) rfl (by first | omega | ((try simp only [H8.len, shaK_len, sched_len, w16_len, List.length_take] at *); omega)) (Nat.le_of_ble_eq_true rfl) rfl) ?_
  refine DG.rd rfl rfl rfl (fun _ _ => rd_conv8_32 Tryz.isome5 Tryz.under137 rfl) ?_
  refine DG.rd rfl rfl rfl (fun _ _ => rd_shl32 (k := 24) rfl rfl (rfl) (by decide)) ?_
  refine DG.rd rfl rfl rfl (fun _ _ => rd_move (v := .slice _ _ _) rfl) ?_
  refine DG.rd rfl rfl rfl (fun _ _ => rd_move (v := .int _ _) rfl) ?_
  refine DG.rd rfl rfl rfl (fun _ _ => rd_mul rfl rfl (w64 (by first | omega | ((try simp only [H8.len, shaK_len, sched_len, w16_len, List.length_take] at *); omega)) (by first | omega | ((try simp only [H8.len, shaK_len, sched_len, w16_len, List.length_take] at *); omega)))) ?_
  refine DG.rd rfl rfl rfl (fun _ _ => rd_add rfl rfl (w64 (by first | omega | ((try simp only [H8.len, shaK_len, sched_len, w16_len, List.length_take] at *); omega)) (by first | omega | ((try simp only [H8.len, shaK_len, sched_len, w16_len, List.length_take] at *); omega)))) ?_
  refine DG.rd rfl rfl rfl (fun _ _ => rd_ix (k := (4 * k + 1)) Tryz.under62 Tryz.size5 rfl rfl (Has.arg 1 rfl) (by omega) (by first | omega | ((try simp only [H8.len, shaK_len, sched_len, w16_len, List.length_take] at *); omega)) (by omega)) ?_
  refine DG.rd rfl rfl rfl (fun _ _ => rd_el (v := .int _ _) (4 * k + 1) 0 Tryz.one5 rfl (Has.arg 1 rfl) rfl (by first | omega | ((try simp only [H8.len, shaK_len, sched_len, w16_len, List.length_take] at *); omega)) (Nat.le_of_ble_eq_true rfl) rfl) ?_
  refine DG.rd rfl rfl rfl (fun _ _ => rd_conv8_32 Tryz.isome5 Tryz.under137 rfl) ?_
  refine DG.rd rfl rfl rfl (fun _ _ => rd_shl32 (k := 16) rfl rfl (rfl) (by decide)) ?_
  refine DG.rd rfl rfl rfl (fun _ _ => rd_or32 rfl rfl) ?_
  refine DG.rd rfl rfl rfl (fun _ _ => rd_move (v := .slice _ _ _) rfl) ?_
  refine DG.rd rfl rfl rfl (fun _ _ => rd_move (v := .int _ _) rfl) ?_
  refine DG.rd rfl rfl rfl (fun _ _ => rd_mul rfl rfl (w64 (by first | omega | ((try simp only [H8.len, shaK_len, sched_len, w16_len, List.length_take] at *); omega)) (by first | omega | ((try simp only [H8.len, shaK_len, sched_len, w16_len, List.length_take] at *); omega)))) ?_
  refine DG.rd rfl rfl rfl (fun _ _ => rd_add rfl rfl (w64 (by first | omega | ((try simp only [H8.len, shaK_len, sched_len, w16_len, List.length_take] at *); omega)) (by first | omega | ((try simp only [H8.len, shaK_len, sched_len, w16_len, List.length_take] at *); omega)))) ?_
  refine DG.rd rfl rfl rfl (fun _ _ => rd_ix (k := (4 * k + 2)) Tryz.under62 Tryz.size5 rfl rfl (Has.arg 1 rfl) (by omega) (by first | omega | ((try simp only [H8.len, shaK_len, sched_len, w16_len, List.length_take] at *); omega)) (by omega)) ?_
  refine DG.rd rfl rfl rfl (fun _ _ => rd_el (v := .int _ _) (4 * k + 2) 0 Tryz.one5 rfl (Has.arg 1 rfl) rfl (by first | omega | ((try simp only [H8.len, shaK_len, sched_len, w16_len, List.length_take] at *); omega)) (Nat.le_of_ble_eq_true rfl) rfl) ?_
  refine DG.rd rfl rfl rfl (fun _ _ => rd_conv8_32 Tryz.isome5 Tryz.under137 rfl) ?_
  refine DG.rd rfl rfl rfl (fun _ _ => rd_shl32 (k := 8) rfl rfl (rfl) (by decide)) ?_
  refine DG.rd rfl rfl rfl (fun _ _ => rd_or32 rfl rfl) ?_
  refine DG.rd rfl rfl rfl (fun _ _ => rd_move (v := .slice _ _ _) rfl) ?_
  refine DG.rd rfl rfl rfl (fun _ _ => rd_move (v := .int _ _) rfl) ?_
  refine DG.rd rfl rfl rfl (fun _ _ => rd_mul rfl rfl (w64 (by first | omega | ((try simp only [H8.len, shaK_len, sched_len, w16_len, List.length_take] at *); omega)) (by first | omega | ((try simp only [H8.len, shaK_len, sched_len, w16_len, List.length_take] at *); omega)))) ?_
  refine DG.rd rfl rfl rfl (fun _ _ => rd_add rfl rfl (w64 (by first | omega | ((try simp only [H8.len, shaK_len, sched_len, w16_len, List.length_take] at *); omega)) (by first | omega | ((try simp only [H8.len, shaK_len, sched_len, w16_len, List.length_take] at *); omega)))) ?_
  refine DG.rd rfl rfl rfl (fun _ _ => rd_ix (k := (4 * k + 3)) Tryz.under62 Tryz.size5 rfl rfl (Has.arg 1 rfl) (by omega) (by first | omega | ((try simp only [H8.len, shaK_len, sched_len, w16_len, List.length_take] at *); omega)) (by omega)) ?_
  refine DG.rd rfl rfl rfl (fun _ _ => rd_el (v := .int _ _) (4 * k + 3) 0 Tryz.one5 rfl (Has.arg 1 rfl) rfl (by first | omega | ((try simp only [H8.len, shaK_len, sched_len, w16_len, List.length_take] at *); omega)) (Nat.le_of_ble_eq_true rfl) rfl) ?_
  refine DG.rd rfl rfl rfl (fun _ _ => rd_conv8_32 Tryz.isome5 Tryz.under137 rfl) ?_
  refine DG.rd rfl rfl rfl (fun _ _ => rd_or32 rfl rfl) ?_
  refine DG.buildS (cs := [.int _ _]) rfl rfl Tryz.under138 Tryz.size137 Tryz.zero137 (Nat.le_of_ble_eq_true rfl) (fun _ _ => rfl) ?_
  refine DG.done rfl (by decide) rfl (fun gh5 => ?_)
  refine TO.front1 ?_
  refine TO.app Tryz.trow137 Tryz.under138 (.inl ⟨_, Tryz.under138⟩) rfl rfl (Src.own1 1 rfl rfl) rfl rfl (by first | omega | (have := H8.len h; omega)) (fun A6 c7 hc8 => ?_)
  refine TO.row_eq (cs' := (w16 b (k + 1)).flatMap eW) rfl (by rw [w16_succ, List.flatMap_append, wordAt_get (by omega)]; rfl) ?_
  refine rdx (rd_assign (v := .slice _ _ _) rfl) ?_
  refine TO.nil (TQ.block_normal (TQ.then_normal (T.region ?_)))
  refine rdx (rd_move (v := .int _ _) rfl) ?_
  refine rdx (rd_add rfl rfl (w64 (by first | omega | ((try simp only [H8.len, shaK_len, sched_len, w16_len, List.length_take] at *); omega)) (by first | omega | ((try simp only [H8.len, shaK_len, sched_len, w16_len, List.length_take] at *); omega)))) ?_
  refine rdx (rd_assign (v := .int _ _) rfl) ?_
  refine TO.nil ?_
  refine TQ.againk (A6, c7, k + 1) ?_ ?_ (And.intro (rfl) (And.intro (rfl) (trivial))) (And.intro (rfl) (And.intro (rfl) (trivial))) (fun _ _ h => h.sel (js := [0, 2]) (by decide))
  ·first | omega | (dsimp only; omega)
  ·first | omega | (dsimp only; omega)
 try simp only [nrm] at h3
 refine T.exit (TQ.then_exit (TQ.then_exit (TQ.block_out (TQ.then_normal (T.seq (T.seq (T.region ?_)))))))
 refine rdx (rd_assign (v := .int _ _) rfl) ?_
 refine TO.nil (TQ.then_normal (T.block ?_))
 obtain rfl : k = 16 := by omega
 refine T.loop4 [0] (fun (A1 : Option Addr) (cap1 : Nat) (k : Nat) (wd : List UInt32) => [(5, .slice A1 k cap1), (7, .int .i64 (k : Nat))]) (fun (A1 : Option Addr) (cap1 : Nat) (k : Nat) (wd : List UInt32) => [row 137 1 A1 k cap1 (wd.flatMap eW)]) (fun (A1 : Option Addr) (cap1 : Nat) (k : Nat) (wd : List UInt32) => wd.length = k ∧ k ≤ 64 ∧ wext (64 - k) wd = sched b ∧ 16 ≤ k) (fun (A1 : Option Addr) (cap1 : Nat) (k : Nat) (wd : List UInt32) => 64 - k) (A1) (cap1) (16) (w16 b 16) (⟨w16_len _ _, by decide, rfl, by decide⟩) (And.intro (rfl) (And.intro (rfl) (trivial))) (fun _ _ h => h) fun A1 cap1 k wd g1 hx1 => ?_
 obtain ⟨hwl, hk, hw, hk16⟩ := hx1
 refine T.seq (T.seq (T.region ?_))
 refine rdx (rd_move (v := .int _ _) rfl) ?_
 refine rdx (rd_lss rfl rfl) ?_
 refine TO.nil (TQ.then_normal ?_)
 refine T.cond rfl (fun h9 => ?_) (fun h9 => ?_)
 ·try simp only [nrm] at h9
  refine T.skip (TQ.then_normal (T.seq (T.block (T.seq ?_))))
  refine T.drawq Tryz.mixes 19 [(63, 0), (64, 1), (65, 2), (66, 3), (67, 4), (68, 5), (69, 6), (70, 7), (71, 8), (72, 9), (73, 10), (74, 11), (75, 12), (76, 13), (77, 14), (78, 15), (79, 16), (80, 17), (81, 18)] [0, 0, 2, 7, 15, 31, 0, 0, 128, 448, 960, 2047, 4095, 0, 0, 16384, 57344, 122880, 253952, 524287, 1048575] (by kernel_rfl) ?_
  refine DQ.rd rfl rfl (fun _ => rd_move (v := .slice _ _ _) rfl) ?_
  refine DQ.rd rfl rfl (fun _ => rd_move (v := .int _ _) rfl) ?_
  refine DQ.rd rfl rfl (fun _ => rd_sub rfl rfl (w64 (by first | omega | ((try simp only [H8.len, shaK_len, sched_len, w16_len, List.length_take] at *); omega)) (by first | omega | ((try simp only [H8.len, shaK_len, sched_len, w16_len, List.length_take] at *); omega)))) ?_
  refine DQ.rd rfl rfl (fun _ => rd_ix (k := (k - 15)) Tryz.under138 Tryz.size137 rfl rfl (row_slc' (e := eW) (xs := wd) (fun _ => rfl) (by first | rfl | omega | simp) (rfl) (Has.own 0 rfl)) (by omega) (by first | omega | ((try simp only [H8.len, shaK_len, sched_len, w16_len, List.length_take] at *); omega)) (by omega)) ?_
  refine DQ.rd rfl rfl (fun _ => rd_el (v := .int _ _) (k - 15) 0 Tryz.one137 rfl (row_slc' (e := eW) (xs := wd) (fun _ => rfl) (by first | rfl | omega | simp) (rfl) (Has.own 0 rfl)) rfl (by first | omega | ((try simp only [H8.len, shaK_len, sched_len, w16_len, List.length_take] at *); omega)) (Nat.le_of_ble_eq_true rfl) rfl) ?_
  refine DQ.fn rfl Tryz.enters103 (c_ref02_rotated _ 7 (by decide) (by decide)) (fun _ => rfl) Reads0 ?_
  refine DQ.rd rfl rfl (fun _ => rd_move (v := .slice _ _ _) rfl) ?_
  refine DQ.rd rfl rfl (fun _ => rd_move (v := .int _ _) rfl) ?_
  refine DQ.rd rfl rfl (fun _ => rd_sub rfl rfl (w64 (by first | omega | ((try simp only [H8.len, shaK_len, sched_len, w16_len, List.length_take] at *); omega)) (by first | omega | ((try simp only [H8.len, shaK_len, sched_len, w16_len, List.length_take] at *); omega)))) ?_
  refine DQ.rd rfl rfl (fun _ => rd_ix (k := (k - 15)) Tryz.under138 Tryz.size137 rfl rfl (row_slc' (e := eW) (xs := wd) (fun _ => rfl) (by first | rfl | omega | simp) (rfl) (Has.own 0 rfl)) (by omega) (by first | omega | ((try simp only [H8.len, shaK_len, sched_len, w16_len, List.length_take] at *); omega)) (by omega)) ?_
  refine DQ.rd rfl rfl (fun _ => rd_el (v := .int _ _) (k - 15) 0 Tryz.one137 rfl (row_slc' (e := eW) (xs := wd) (fun _ => rfl) (by first | rfl | omega | simp) (rfl) (Has.own 0 rfl)) rfl (by first | omega | ((try simp only [H8.len, shaK_len, sched_len, w16_len, List.length_take] at *); omega)) (Nat.le_of_ble_eq_true rfl) rfl) ?_
  refine DQ.fn rfl Tryz.enters103 (c_ref02_rotated _ 18 (by decide) (by decide)) (fun _ => rfl) Reads0 ?_
  refine DQ.rd rfl rfl (fun _ => rd_xor32 rfl rfl) ?_
  refine DQ.rd rfl rfl (fun _ => rd_move (v := .slice _ _ _) rfl) ?_
  refine DQ.rd rfl rfl (fun _ => rd_move (v := .int _ _) rfl) ?_
  refine DQ.rd rfl rfl (fun _ => rd_sub rfl rfl (w64 (by first | omega | ((try simp only [H8.len, shaK_len, sched_len, w16_len, List.length_take] at *); omega)) (by first | omega | ((try simp only [H8.len, shaK_len, sched_len, w16_len, List.length_take] at *); omega)))) ?_
  refine DQ.rd rfl rfl (fun _ => rd_ix (k := (k - 15)) Tryz.under138 Tryz.size137 rfl rfl (row_slc' (e := eW) (xs := wd) (fun _ => rfl) (by first | rfl | omega | simp) (rfl) (Has.own 0 rfl)) (by omega) (by first | omega | ((try simp only [H8.len, shaK_len, sched_len, w16_len, List.length_take] at *); omega)) (by omega)) ?_
  refine DQ.rd rfl rfl (fun _ => rd_el (v := .int _ _) (k - 15) 0 Tryz.one137 rfl (row_slc' (e := eW) (xs := wd) (fun _ => rfl) (by first | rfl | omega | simp) (rfl) (Has.own 0 rfl)) rfl (by first | omega | ((try simp only [H8.len, shaK_len, sched_len, w16_len, List.length_take] at *); omega)) (Nat.le_of_ble_eq_true rfl) rfl) ?_
  refine DQ.rd rfl rfl (fun _ => rd_shr32 (k := 3) rfl rfl (rfl) (by decide)) ?_
  refine DQ.done rfl ?_
  refine rdx (rd_xor32 rfl rfl) ?_
  refine rdx (rd_assign (v := .int _ _) rfl) ?_
  refine TO.nil (TQ.then_normal (T.seq ?_))
  refine T.drawq Tryz.mixes 19 [(83, 0), (84, 1), (85, 2), (86, 3), (87, 4), (88, 5), (89, 6), (90, 7), (91, 8), (92, 9), (93, 10), (94, 11), (95, 12), (96, 13), (97, 14), (98, 15), (99, 16), (100, 17), (101, 18)] [0, 0, 2, 7, 15, 31, 0, 0, 128, 448, 960, 2047, 4095, 0, 0, 16384, 57344, 122880, 253952, 524287, 1048575] (by kernel_rfl) ?_
  refine DQ.rd rfl rfl (fun _ => rd_move (v := .slice _ _ _) rfl) ?_
  refine DQ.rd rfl rfl (fun _ => rd_move (v := .int _ _) rfl) ?_
  refine DQ.rd rfl rfl (fun _ => rd_sub rfl rfl (w64 (by first | omega | ((try simp only [H8.len, shaK_len, sched_len, w16_len, List.length_take] at *); omega)) (by first | omega | ((try simp only [H8.len, shaK_len, sched_len, w16_len, List.length_take] at *); omega)))) ?_
  refine DQ.rd rfl rfl (fun _ => rd_ix (k := (k - 2)) Tryz.under138 Tryz.size137 rfl rfl (row_slc' (e := eW) (xs := wd) (fun _ => rfl) (by first | rfl | omega | simp) (rfl) (Has.own 0 rfl)) (by omega) (by first | omega | ((try simp only [H8.len, shaK_len, sched_len, w16_len, List.length_take] at *); omega)) (by omega)) ?_
  refine DQ.rd rfl rfl (fun _ => rd_el (v := .int _ _) (k - 2) 0 Tryz.one137 rfl (row_slc' (e := eW) (xs := wd) (fun _ => rfl) (by first | rfl | omega | simp) (rfl) (Has.own 0 rfl)) rfl (by first | omega | ((try simp only [H8.len, shaK_len, sched_len, w16_len, List.length_take] at *); omega)) (Nat.le_of_ble_eq_true rfl) rfl) ?_
  refine DQ.fn rfl Tryz.enters103 (c_ref02_rotated _ 17 (by decide) (by decide)) (fun _ => rfl) Reads0 ?_
  refine DQ.rd rfl rfl (fun _ => rd_move (v := .slice _ _ _) rfl) ?_
  refine DQ.rd rfl rfl (fun _ => rd_move (v := .int _ _) rfl) ?_
  refine DQ.rd rfl rfl (fun _ => rd_sub rfl rfl (w64 (by first | omega | ((try simp only [H8.len, shaK_len, sched_len, w16_len, List.length_take] at *); omega)) (by first | omega | ((try simp only [H8.len, shaK_len, sched_len, w16_len, List.length_take] at *); omega)))) ?_
  refine DQ.rd rfl rfl (fun _ => rd_ix (k := (k - 2)) Tryz.under138 Tryz.size137 rfl rfl (row_slc' (e := eW) (xs := wd) (fun _ => rfl) (by first | rfl | omega | simp) (rfl) (Has.own 0 rfl)) (by omega) (by first | omega | ((try simp only [H8.len, shaK_len, sched_len, w16_len, List.length_take] at *); omega)) (by omega)) ?_
  refine DQ.rd rfl rfl (fun _ => rd_el (v := .int _ _) (k - 2) 0 Tryz.one137 rfl (row_slc' (e := eW) (xs := wd) (fun _ => rfl) (by first | rfl | omega | simp) (rfl) (Has.own 0 rfl)) rfl (by first | omega | ((try simp only [H8.len, shaK_len, sched_len, w16_len, List.length_take] at *); omega)) (Nat.le_of_ble_eq_true rfl) rfl) ?_
  refine DQ.fn rfl Tryz.enters103 (c_ref02_rotated _ 19 (by decide) (by decide)) (fun _ => rfl) Reads0 ?_
  refine DQ.rd rfl rfl (fun _ => rd_xor32 rfl rfl) ?_
  refine DQ.rd rfl rfl (fun _ => rd_move (v := .slice _ _ _) rfl) ?_
  refine DQ.rd rfl rfl (fun _ => rd_move (v := .int _ _) rfl) ?_
  refine DQ.rd rfl rfl (fun _ => rd_sub rfl rfl (w64 (by first | omega | ((try simp only [H8.len, shaK_len, sched_len, w16_len, List.length_take] at *); omega)) (by first | omega | ((try simp only [H8.len, shaK_len, sched_len, w16_len, List.length_take] at *); omega)))) ?_
  refine DQ.rd rfl rfl (fun _ => rd_ix (k := (k - 2)) Tryz.under138 Tryz.size137 rfl rfl (row_slc' (e := eW) (xs := wd) (fun _ => rfl) (by first | rfl | omega | simp) (rfl) (Has.own 0 rfl)) (by omega) (by first | omega | ((try simp only [H8.len, shaK_len, sched_len, w16_len, List.length_take] at *); omega)) (by omega)) ?_
  refine DQ.rd rfl rfl (fun _ => rd_el (v := .int _ _) (k - 2) 0 Tryz.one137 rfl (row_slc' (e := eW) (xs := wd) (fun _ => rfl) (by first | rfl | omega | simp) (rfl) (Has.own 0 rfl)) rfl (by first | omega | ((try simp only [H8.len, shaK_len, sched_len, w16_len, List.length_take] at *); omega)) (Nat.le_of_ble_eq_true rfl) rfl) ?_
  refine DQ.rd rfl rfl (fun _ => rd_shr32 (k := 10) rfl rfl (rfl) (by decide)) ?_
  refine DQ.done rfl ?_
  refine rdx (rd_xor32 rfl rfl) ?_
  refine rdx (rd_assign (v := .int _ _) rfl) ?_
  refine TO.nil (TQ.then_normal ?_)
  refine T.drawg Tryz.mixes 17 [(103, 0), (104, 1), (105, 2), (106, 3), (107, 4), (108, 5), (109, 6), (110, 7), (111, 8), (112, 9), (113, 10), (114, 11), (115, 12), (116, 13), (117, 14), (118, 15), (119, 16)] [0, 0, 0, 4, 14, 30, 0, 126, 0, 0, 512, 1792, 3840, 8190, 0, 32766, 65534, 131071, 262143] [16] (by kernel_rfl) ?_
  refine DG.rd rfl rfl rfl (fun _ _ => rd_move (v := .slice _ _ _) rfl) ?_
  refine DG.rd rfl rfl rfl (fun _ _ => rd_move (v := .slice _ _ _) rfl) ?_
  refine DG.rd rfl rfl rfl (fun _ _ => rd_move (v := .int _ _) rfl) ?_
  refine DG.rd rfl rfl rfl (fun _ _ => rd_sub rfl rfl (w64 (by first | omega | ((try simp only [H8.len, shaK_len, sched_len, w16_len, List.length_take] at *); omega)) (by first | omega | ((try simp only [H8.len, shaK_len, sched_len, w16_len, List.length_take] at *); omega)))) ?_
  refine DG.rd rfl rfl rfl (fun _ _ => rd_ix (k := (k - 16)) Tryz.under138 Tryz.size137 rfl rfl (row_slc' (e := eW) (xs := wd) (fun _ => rfl) (by first | rfl | omega | simp) (rfl) (Has.own 0 rfl)) (by omega) (by first | omega | ((try simp only [H8.len, shaK_len, sched_len, w16_len, List.length_take] at *); omega)) (by omega)) ?_
  refine DG.rd rfl rfl rfl (fun _ _ => rd_el (v := .int _ _) (k - 16) 0 Tryz.one137 rfl (row_slc' (e := eW) (xs := wd) (fun _ => rfl) (by first | rfl | omega | simp) (rfl) (Has.own 0 rfl)) rfl (by first | omega | ((try simp only [H8.len, shaK_len, sched_len, w16_len, List.length_take] at *); omega)) (Nat.le_of_ble_eq_true rfl) rfl) ?_
  refine DG.rd rfl rfl rfl (fun _ _ => rd_move (v := .int _ _) rfl) ?_
  refine DG.rd rfl rfl rfl (fun _ _ => rd_add32 rfl rfl) ?_
  refine DG.rd rfl rfl rfl (fun _ _ => rd_move (v := .slice _ _ _) rfl) ?_
  refine DG.rd rfl rfl rfl (fun _ _ => rd_move (v := .int _ _) rfl) ?_
  refine DG.rd rfl rfl rfl (fun _ _ => rd_sub rfl rfl (w64 (by first | omega | ((try simp only [H8.len, shaK_len, sched_len, w16_len, List.length_take] at *); omega)) (by first | omega | ((try simp only [H8.len, shaK_len, sched_len, w16_len, List.length_take] at *); omega)))) ?_
  refine DG.rd rfl rfl rfl (fun _ _ => rd_ix (k := (k - 7)) Tryz.under138 Tryz.size137 rfl rfl (row_slc' (e := eW) (xs := wd) (fun _ => rfl) (by first | rfl | omega | simp) (rfl) (Has.own 0 rfl)) (by omega) (by first | omega | ((try simp only [H8.len, shaK_len, sched_len, w16_len, List.length_take] at *); omega)) (by omega)) ?_
  refine DG.rd rfl rfl rfl (fun _ _ => rd_el (v := .int _ _) (k - 7) 0 Tryz.one137 rfl (row_slc' (e := eW) (xs := wd) (fun _ => rfl) (by first | rfl | omega | simp) (rfl) (Has.own 0 rfl)) rfl (by first | omega | ((try simp only [H8.len, shaK_len, sched_len, w16_len, List.length_take] at *); omega)) (Nat.le_of_ble_eq_true rfl) rfl) ?_
  refine DG.rd rfl rfl rfl (fun _ _ => rd_add32 rfl rfl) ?_
  refine DG.rd rfl rfl rfl (fun _ _ => rd_move (v := .int _ _) rfl) ?_
  refine DG.rd rfl rfl rfl (fun _ _ => rd_add32 rfl rfl) ?_
  refine DG.buildS (cs := [.int _ _]) rfl rfl Tryz.under138 Tryz.size137 Tryz.zero137 (Nat.le_of_ble_eq_true rfl) (fun _ _ => rfl) ?_
  refine DG.done rfl (by decide) rfl (fun gh11 => ?_)
  refine TO.front1 ?_
  refine TO.app Tryz.trow137 Tryz.under138 (.inl ⟨_, Tryz.under138⟩) rfl rfl (Src.own1 1 rfl rfl) rfl rfl (by first | omega | (have := H8.len h; omega)) (fun A12 c13 hc14 => ?_)
  refine TO.row_eq (cs' := (wd ++ [wnext wd]).flatMap eW) rfl (by rw [List.flatMap_append, wnext_get hwl hk16]; rfl) ?_
  refine rdx (rd_assign (v := .slice _ _ _) rfl) ?_
  refine TO.nil (TQ.block_normal (TQ.then_normal (T.region ?_)))
  refine rdx (rd_move (v := .int _ _) rfl) ?_
  refine rdx (rd_add rfl rfl (w64 (by first | omega | ((try simp only [H8.len, shaK_len, sched_len, w16_len, List.length_take] at *); omega)) (by first | omega | ((try simp only [H8.len, shaK_len, sched_len, w16_len, List.length_take] at *); omega)))) ?_
  refine rdx (rd_assign (v := .int _ _) rfl) ?_
  refine TO.nil ?_
  refine TQ.againk (A12, c13, k + 1, wd ++ [wnext wd]) ?_ ?_ (And.intro (rfl) (And.intro (rfl) (trivial))) (And.intro (rfl) (trivial)) (fun _ _ h => h.sel (js := [0, 2]) (by decide))
  ·refine ⟨by simp; omega, by dsimp only; omega, ?_, by dsimp only; omega⟩
   rw [← hw, show 64 - k = (64 - (k + 1)) + 1 by omega]
   rfl
  ·first | omega | (dsimp only; omega)
 try simp only [nrm] at h9
 refine T.exit (TQ.then_exit (TQ.then_exit (TQ.block_out (TQ.then_normal (T.seq (T.region ?_))))))
 refine TO.fnx Tryz.enters104 (c_ref02_constants) rfl Reads0 (fun ⟨A15, cap16⟩ hx17 => ?_)
 refine rdx (rd_assign (v := .slice _ _ _) rfl) ?_
 refine TO.nil (TQ.then_normal (T.seq (T.region ?_)))
 refine rdx (rd_assign (v := .slice none 0 0) rfl) ?_
 refine TO.newrow 137 1 ?_
 refine TO.nil (TQ.then_normal (T.seq (T.region ?_)))
 refine rdx (rd_move (v := .slice _ _ _) rfl) ?_
 refine rdx (rd_move (v := .slice _ _ _) rfl) ?_
 refine TO.app Tryz.trow137 Tryz.under138 (.inl ⟨_, Tryz.under138⟩) rfl rfl (fun _ _ _ hw => Src.ofSlc (e := eW) (fun _ => rfl) (Has.arg 0 rfl) hw) (flatMap_len (e := eW) (fun _ => rfl) _) (flatMap_one (e := eW) (fun _ => rfl) _) (by first | omega | (have := H8.len h; omega)) (fun A20 c21 hc22 => ?_)
 refine rdx (rd_assign (v := .slice _ _ _) rfl) ?_
 refine TO.nil (TQ.then_normal (T.seq (T.seq (T.region ?_))))
 refine rdx (rd_assign (v := .int _ _) rfl) ?_
 refine TO.nil (TQ.then_normal (T.block ?_))
 obtain rfl : k = 64 := by omega
 have hws : wd = sched b := by simpa only [Nat.sub_self, wext] using hw
 have hkl := shaK_len
 refine T.loop4 [0, 5, 10] (fun (A2 : Option Addr) (cap2 : Nat) (k : Nat) (v : H8) => [(11, .slice A2 8 cap2), (12, .int .i64 (k : Nat))]) (fun (A2 : Option Addr) (cap2 : Nat) (k : Nat) (v : H8) => [row 137 1 A2 8 cap2 (v.l.flatMap eW)]) (fun (A2 : Option Addr) (cap2 : Nat) (k : Nat) (v : H8) => v = rnds h ((shaK.zip wd).take k) ∧ k ≤ 64) (fun (A2 : Option Addr) (cap2 : Nat) (k : Nat) (v : H8) => 64 - k) (A20) (c21) (0) (h) (⟨rfl, by decide⟩) (And.intro (rfl) (And.intro (rfl) (trivial))) (fun _ _ h => h) fun A2 cap2 k v g2 hx2 => ?_
 obtain ⟨hv, hk⟩ := hx2
 have hvl : v.l.length = 8 := rfl
 refine T.seq (T.seq (T.region ?_))
 refine rdx (rd_move (v := .int _ _) rfl) ?_
 refine rdx (rd_lss rfl rfl) ?_
 refine TO.nil (TQ.then_normal ?_)
 refine T.cond_ft rfl (fun h23 => ?_) (fun h23 => ?_)
 ·try simp only [nrm] at h23
  refine T.exit (TQ.then_exit (TQ.then_exit (TQ.block_out (TQ.then_normal (T.seq (T.region ?_))))))
  refine rdx (rd_assign (v := .slice none 0 0) rfl) ?_
  refine TO.newrow 137 1 ?_
  refine TO.nil (TQ.then_normal (T.seq (T.seq (T.region ?_))))
  refine rdx (rd_assign (v := .int _ _) rfl) ?_
  refine TO.nil (TQ.then_normal (T.block ?_))
  refine T.loop3 [0, 11] (fun (A3 : Option Addr) (cap3 : Nat) (k : Nat) => [(17, .slice A3 k cap3), (18, .int .i64 (k : Nat))]) (fun (A3 : Option Addr) (cap3 : Nat) (k : Nat) => [row 137 1 A3 k cap3 (((h.add v).l.take k).flatMap eW)]) (fun (A3 : Option Addr) (cap3 : Nat) (k : Nat) => k ≤ 8) (fun (A3 : Option Addr) (cap3 : Nat) (k : Nat) => 8 - k) (none) (0) (0) (Nat.zero_le _) (And.intro (rfl) (And.intro (rfl) (trivial))) (fun _ _ h => h) fun A3 cap3 k g3 hx3 => ?_
  refine T.seq (T.seq (T.region ?_))
  refine rdx (rd_move (v := .int _ _) rfl) ?_
  refine rdx (rd_lss rfl rfl) ?_
  refine TO.nil (TQ.then_normal ?_)
  refine T.cond_ft rfl (fun h26 => ?_) (fun h26 => ?_)
  ·try simp only [nrm] at h26
   refine T.exit (TQ.then_exit (TQ.then_exit (TQ.block_out (TQ.then_normal (T.seq (T.region ?_))))))
   refine rdx (rd_move (v := .slice _ _ _) rfl) ?_
   refine rdx (rd_assign (v := .slice _ _ _) rfl) ?_
   refine TO.nil (TQ.then_normal (T.ret ?_))
   refine TQ.done ((A3, cap3)) (trivial) ?_ (fun _ _ => seps_row 0 rfl (by omega) (by rw [shaBlock, List.take_of_length_le (by rw [H8.len]; omega), hv, ← hws, List.take_of_length_le (by rw [zip_len hwl]; omega)])) (res1 Tryz.results98 (Res.tmp (v := .slice _ _ _) rfl)) _ (.inl rfl)
   rw [show k = 8 by omega]
  try simp only [nrm] at h26
  refine T.skip (TQ.then_normal (T.seq (T.block ?_)))
  refine T.drawg Tryz.mixes 11 [(225, 0), (226, 1), (227, 2), (228, 3), (229, 4), (230, 5), (231, 6), (232, 7), (233, 8), (234, 9), (235, 10)] [0, 0, 0, 6, 14, 0, 0, 96, 224, 510, 1022, 2047, 4095] [10] (by kernel_rfl) ?_
  refine DG.rd rfl rfl rfl (fun _ _ => rd_move (v := .slice _ _ _) rfl) ?_
  refine DG.rd rfl rfl rfl (fun _ _ => rd_move (v := .slice _ _ _) rfl) ?_
  refine DG.rd rfl rfl rfl (fun _ _ => rd_move (v := .int _ _) rfl) ?_
  refine DG.rd rfl rfl rfl (fun _ _ => rd_ix Tryz.under138 Tryz.size137 rfl rfl (Has.arg 0 rfl) rfl (by first | omega | ((try simp only [H8.len, shaK_len, sched_len, w16_len, List.length_take] at *); omega)) (by omega)) ?_
  refine DG.rd rfl rfl rfl (fun _ _ => rd_el (v := .int _ _) _ 0 Tryz.one137 rfl (Has.arg 0 rfl) rfl (by first | omega | ((try simp only [H8.len, shaK_len, sched_len, w16_len, List.length_take] at *); omega)) (Nat.le_of_ble_eq_true rfl) rfl) ?_
  refine DG.rd rfl rfl rfl (fun _ _ => rd_move (v := .slice _ _ _) rfl) ?_
  refine DG.rd rfl rfl rfl (fun _ _ => rd_move (v := .int _ _) rfl) ?_
  refine DG.rd rfl rfl rfl (fun _ _ => rd_ix Tryz.under138 Tryz.size137 rfl rfl (row_slc' (e := eW) (xs := v.l) (fun _ => rfl) (by first | rfl | omega | simp) (rfl) (Has.own 1 rfl)) rfl (by first | omega | ((try simp only [H8.len, shaK_len, sched_len, w16_len, List.length_take] at *); omega)) (by omega)) ?_
  refine DG.rd rfl rfl rfl (fun _ _ => rd_el (v := .int _ _) _ 0 Tryz.one137 rfl (row_slc' (e := eW) (xs := v.l) (fun _ => rfl) (by first | rfl | omega | simp) (rfl) (Has.own 1 rfl)) rfl (by first | omega | ((try simp only [H8.len, shaK_len, sched_len, w16_len, List.length_take] at *); omega)) (Nat.le_of_ble_eq_true rfl) rfl) ?_
  refine DG.rd rfl rfl rfl (fun _ _ => rd_add32 rfl rfl) ?_
  refine DG.buildS (cs := [.int _ _]) rfl rfl Tryz.under138 Tryz.size137 Tryz.zero137 (Nat.le_of_ble_eq_true rfl) (fun _ _ => rfl) ?_
  refine DG.done rfl (by decide) rfl (fun gh28 => ?_)
  refine TO.front1 ?_
  refine TO.app Tryz.trow137 Tryz.under138 (.inl ⟨_, Tryz.under138⟩) rfl rfl (Src.own1 1 rfl rfl) rfl rfl (by first | omega | (have := H8.len h; omega)) (fun A29 c30 hc31 => ?_)
  refine TO.row_eq (cs' := ((h.add v).l.take (k + 1)).flatMap eW) rfl (add_row (by omega) _ _) ?_
  refine rdx (rd_assign (v := .slice _ _ _) rfl) ?_
  refine TO.nil (TQ.block_normal (TQ.then_normal (T.region ?_)))
  refine rdx (rd_move (v := .int _ _) rfl) ?_
  refine rdx (rd_add rfl rfl (w64 (by first | omega | ((try simp only [H8.len, shaK_len, sched_len, w16_len, List.length_take] at *); omega)) (by first | omega | ((try simp only [H8.len, shaK_len, sched_len, w16_len, List.length_take] at *); omega)))) ?_
  refine rdx (rd_assign (v := .int _ _) rfl) ?_
  refine TO.nil ?_
  refine TQ.againk (A29, c30, k + 1) ?_ ?_ (And.intro (rfl) (And.intro (rfl) (trivial))) (And.intro (rfl) (And.intro (rfl) (trivial))) (fun _ _ h => h.sel (js := [0, 2, 3, 4, 5]) (by decide))
  ·first | omega | (dsimp only; omega)
  ·first | omega | (dsimp only; omega)
 try simp only [nrm] at h23
 refine T.skip (TQ.then_normal (T.seq (T.block (T.seq (T.region ?_)))))
 refine rdx (rd_move (v := .slice _ _ _) rfl) ?_
 refine rdx (rd_ix (k := 0) Tryz.under138 Tryz.size137 rfl rfl (row_slc' (e := eW) (xs := v.l) (fun _ => rfl) (by first | rfl | omega | simp) (rfl) (Has.own 0 rfl)) rfl (by first | omega | ((try simp only [H8.len, shaK_len, sched_len, w16_len, List.length_take] at *); omega)) (by omega)) ?_
 refine rdx (rd_el (v := .int _ _) 0 0 Tryz.one137 rfl (row_slc' (e := eW) (xs := v.l) (fun _ => rfl) (by first | rfl | omega | simp) (rfl) (Has.own 0 rfl)) rfl (by first | omega | ((try simp only [H8.len, shaK_len, sched_len, w16_len, List.length_take] at *); omega)) (Nat.le_of_ble_eq_true rfl) rfl) ?_
 refine rdx (rd_assign (v := .int _ _) rfl) ?_
 refine TO.nil (TQ.then_normal (T.seq (T.region ?_)))
 refine rdx (rd_move (v := .slice _ _ _) rfl) ?_
 refine rdx (rd_ix (k := 4) Tryz.under138 Tryz.size137 rfl rfl (row_slc' (e := eW) (xs := v.l) (fun _ => rfl) (by first | rfl | omega | simp) (rfl) (Has.own 0 rfl)) rfl (by first | omega | ((try simp only [H8.len, shaK_len, sched_len, w16_len, List.length_take] at *); omega)) (by omega)) ?_
 refine rdx (rd_el (v := .int _ _) 4 0 Tryz.one137 rfl (row_slc' (e := eW) (xs := v.l) (fun _ => rfl) (by first | rfl | omega | simp) (rfl) (Has.own 0 rfl)) rfl (by first | omega | ((try simp only [H8.len, shaK_len, sched_len, w16_len, List.length_take] at *); omega)) (Nat.le_of_ble_eq_true rfl) rfl) ?_
 refine rdx (rd_assign (v := .int _ _) rfl) ?_
 refine TO.nil (TQ.then_normal (T.seq ?_))
 refine T.drawq Tryz.mixes 34 [(135, 0), (136, 1), (137, 2), (138, 3), (139, 4), (140, 5), (141, 6), (142, 7), (143, 8), (144, 9), (145, 10), (146, 11), (147, 12), (148, 13), (149, 14), (150, 15), (151, 16), (152, 17), (153, 18), (154, 19), (155, 20), (156, 21), (157, 22), (158, 23), (159, 24), (160, 25), (161, 26), (162, 27), (163, 28), (164, 29), (165, 30), (166, 31), (167, 32), (168, 33)] [0, 1, 3, 0, 8, 0, 56, 120, 0, 376, 1016, 2047, 0, 0, 8192, 24576, 61440, 0, 131072, 0, 524288, 1572864, 4063232, 8384512, 16777215, 0, 0, 100663296, 234881024, 536870911, 0, 0, 3221225472, 7516192768, 17179869183, 34359738367] (by kernel_rfl) ?_
 refine DQ.rd rfl rfl (fun _ => rd_move (v := .slice _ _ _) rfl) ?_
 refine DQ.rd rfl rfl (fun _ => rd_ix (k := 7) Tryz.under138 Tryz.size137 rfl rfl (row_slc' (e := eW) (xs := v.l) (fun _ => rfl) (by first | rfl | omega | simp) (rfl) (Has.own 0 rfl)) rfl (by first | omega | ((try simp only [H8.len, shaK_len, sched_len, w16_len, List.length_take] at *); omega)) (by omega)) ?_
 refine DQ.rd rfl rfl (fun _ => rd_el (v := .int _ _) 7 0 Tryz.one137 rfl (row_slc' (e := eW) (xs := v.l) (fun _ => rfl) (by first | rfl | omega | simp) (rfl) (Has.own 0 rfl)) rfl (by first | omega | ((try simp only [H8.len, shaK_len, sched_len, w16_len, List.length_take] at *); omega)) (Nat.le_of_ble_eq_true rfl) rfl) ?_
 refine DQ.rd rfl rfl (fun _ => rd_move (v := .int _ _) rfl) ?_
 refine DQ.fn rfl Tryz.enters103 (c_ref02_rotated _ 6 (by decide) (by decide)) (fun _ => rfl) Reads0 ?_
 refine DQ.rd rfl rfl (fun _ => rd_move (v := .int _ _) rfl) ?_
 refine DQ.fn rfl Tryz.enters103 (c_ref02_rotated _ 11 (by decide) (by decide)) (fun _ => rfl) Reads0 ?_
 refine DQ.rd rfl rfl (fun _ => rd_xor32 rfl rfl) ?_
 refine DQ.rd rfl rfl (fun _ => rd_move (v := .int _ _) rfl) ?_
 refine DQ.fn rfl Tryz.enters103 (c_ref02_rotated _ 25 (by decide) (by decide)) (fun _ => rfl) Reads0 ?_
 refine DQ.rd rfl rfl (fun _ => rd_xor32 rfl rfl) ?_
 refine DQ.rd rfl rfl (fun _ => rd_add32 rfl rfl) ?_
 refine DQ.rd rfl rfl (fun _ => rd_move (v := .int _ _) rfl) ?_
 refine DQ.rd rfl rfl (fun _ => rd_move (v := .slice _ _ _) rfl) ?_
 refine DQ.rd rfl rfl (fun _ => rd_ix (k := 5) Tryz.under138 Tryz.size137 rfl rfl (row_slc' (e := eW) (xs := v.l) (fun _ => rfl) (by first | rfl | omega | simp) (rfl) (Has.own 0 rfl)) rfl (by first | omega | ((try simp only [H8.len, shaK_len, sched_len, w16_len, List.length_take] at *); omega)) (by omega)) ?_
 refine DQ.rd rfl rfl (fun _ => rd_el (v := .int _ _) 5 0 Tryz.one137 rfl (row_slc' (e := eW) (xs := v.l) (fun _ => rfl) (by first | rfl | omega | simp) (rfl) (Has.own 0 rfl)) rfl (by first | omega | ((try simp only [H8.len, shaK_len, sched_len, w16_len, List.length_take] at *); omega)) (Nat.le_of_ble_eq_true rfl) rfl) ?_
 refine DQ.rd rfl rfl (fun _ => rd_and32 rfl rfl) ?_
 refine DQ.rd rfl rfl (fun _ => rd_move (v := .int _ _) rfl) ?_
 refine DQ.rd rfl rfl (fun _ => rd_not32 rfl) ?_
 refine DQ.rd rfl rfl (fun _ => rd_move (v := .slice _ _ _) rfl) ?_
 refine DQ.rd rfl rfl (fun _ => rd_ix (k := 6) Tryz.under138 Tryz.size137 rfl rfl (row_slc' (e := eW) (xs := v.l) (fun _ => rfl) (by first | rfl | omega | simp) (rfl) (Has.own 0 rfl)) rfl (by first | omega | ((try simp only [H8.len, shaK_len, sched_len, w16_len, List.length_take] at *); omega)) (by omega)) ?_
 refine DQ.rd rfl rfl (fun _ => rd_el (v := .int _ _) 6 0 Tryz.one137 rfl (row_slc' (e := eW) (xs := v.l) (fun _ => rfl) (by first | rfl | omega | simp) (rfl) (Has.own 0 rfl)) rfl (by first | omega | ((try simp only [H8.len, shaK_len, sched_len, w16_len, List.length_take] at *); omega)) (Nat.le_of_ble_eq_true rfl) rfl) ?_
 refine DQ.rd rfl rfl (fun _ => rd_and32 rfl rfl) ?_
 refine DQ.rd rfl rfl (fun _ => rd_xor32 rfl rfl) ?_
 refine DQ.rd rfl rfl (fun _ => rd_add32 rfl rfl) ?_
 refine DQ.rd rfl rfl (fun _ => rd_move (v := .slice _ _ _) rfl) ?_
 refine DQ.rd rfl rfl (fun _ => rd_move (v := .int _ _) rfl) ?_
 refine DQ.rd rfl rfl (fun _ => rd_ix Tryz.under138 Tryz.size137 rfl rfl (row_slc' (e := eW) (xs := shaK) (fun _ => rfl) (by first | rfl | omega | simp) (by first | rfl | simp) (Has.own 1 rfl)) rfl (by first | omega | ((try simp only [H8.len, shaK_len, sched_len, w16_len, List.length_take] at *); omega)) (by omega)) ?_
 refine DQ.rd rfl rfl (fun _ => rd_el (v := .int _ _) _ 0 Tryz.one137 rfl (row_slc' (e := eW) (xs := shaK) (fun _ => rfl) (by first | rfl | omega | simp) (by first | rfl | simp) (Has.own 1 rfl)) rfl (by first | omega | ((try simp only [H8.len, shaK_len, sched_len, w16_len, List.length_take] at *); omega)) (Nat.le_of_ble_eq_true rfl) rfl) ?_
 refine DQ.rd rfl rfl (fun _ => rd_add32 rfl rfl) ?_
 refine DQ.rd rfl rfl (fun _ => rd_move (v := .slice _ _ _) rfl) ?_
 refine DQ.rd rfl rfl (fun _ => rd_move (v := .int _ _) rfl) ?_
 refine DQ.rd rfl rfl (fun _ => rd_ix Tryz.under138 Tryz.size137 rfl rfl (row_slc' (e := eW) (xs := wd) (fun _ => rfl) (by first | rfl | omega | simp) (rfl) (Has.own 2 rfl)) rfl (by first | omega | ((try simp only [H8.len, shaK_len, sched_len, w16_len, List.length_take] at *); omega)) (by omega)) ?_
 refine DQ.rd rfl rfl (fun _ => rd_el (v := .int _ _) _ 0 Tryz.one137 rfl (row_slc' (e := eW) (xs := wd) (fun _ => rfl) (by first | rfl | omega | simp) (rfl) (Has.own 2 rfl)) rfl (by first | omega | ((try simp only [H8.len, shaK_len, sched_len, w16_len, List.length_take] at *); omega)) (Nat.le_of_ble_eq_true rfl) rfl) ?_
 refine DQ.done rfl ?_
 refine rdx (rd_add32 rfl rfl) ?_
 refine rdx (rd_assign (v := .int _ _) rfl) ?_
 refine TO.nil (TQ.then_normal (T.seq ?_))
 refine T.drawq Tryz.mixes 27 [(170, 0), (171, 1), (172, 2), (173, 3), (174, 4), (175, 5), (176, 6), (177, 7), (178, 8), (179, 9), (180, 10), (181, 11), (182, 12), (183, 13), (184, 14), (185, 15), (186, 16), (187, 17), (188, 18), (189, 19), (190, 20), (191, 21), (192, 22), (193, 23), (194, 24), (195, 25), (196, 26)] [0, 1, 0, 7, 15, 0, 47, 127, 0, 0, 512, 1536, 3840, 0, 0, 16384, 49152, 122880, 261888, 0, 524288, 1572864, 0, 4194304, 12582912, 33030144, 67108608, 134217727, 268435455] (by kernel_rfl) ?_
 refine DQ.rd rfl rfl (fun _ => rd_move (v := .int _ _) rfl) ?_
 refine DQ.fn rfl Tryz.enters103 (c_ref02_rotated _ 2 (by decide) (by decide)) (fun _ => rfl) Reads0 ?_
 refine DQ.rd rfl rfl (fun _ => rd_move (v := .int _ _) rfl) ?_
 refine DQ.fn rfl Tryz.enters103 (c_ref02_rotated _ 13 (by decide) (by decide)) (fun _ => rfl) Reads0 ?_
 refine DQ.rd rfl rfl (fun _ => rd_xor32 rfl rfl) ?_
 refine DQ.rd rfl rfl (fun _ => rd_move (v := .int _ _) rfl) ?_
 refine DQ.fn rfl Tryz.enters103 (c_ref02_rotated _ 22 (by decide) (by decide)) (fun _ => rfl) Reads0 ?_
 refine DQ.rd rfl rfl (fun _ => rd_xor32 rfl rfl) ?_
 refine DQ.rd rfl rfl (fun _ => rd_move (v := .int _ _) rfl) ?_
 refine DQ.rd rfl rfl (fun _ => rd_move (v := .slice _ _ _) rfl) ?_
 refine DQ.rd rfl rfl (fun _ => rd_ix (k := 1) Tryz.under138 Tryz.size137 rfl rfl (row_slc' (e := eW) (xs := v.l) (fun _ => rfl) (by first | rfl | omega | simp) (rfl) (Has.own 0 rfl)) rfl (by first | omega | ((try simp only [H8.len, shaK_len, sched_len, w16_len, List.length_take] at *); omega)) (by omega)) ?_
 refine DQ.rd rfl rfl (fun _ => rd_el (v := .int _ _) 1 0 Tryz.one137 rfl (row_slc' (e := eW) (xs := v.l) (fun _ => rfl) (by first | rfl | omega | simp) (rfl) (Has.own 0 rfl)) rfl (by first | omega | ((try simp only [H8.len, shaK_len, sched_len, w16_len, List.length_take] at *); omega)) (Nat.le_of_ble_eq_true rfl) rfl) ?_
 refine DQ.rd rfl rfl (fun _ => rd_and32 rfl rfl) ?_
 refine DQ.rd rfl rfl (fun _ => rd_move (v := .int _ _) rfl) ?_
 refine DQ.rd rfl rfl (fun _ => rd_move (v := .slice _ _ _) rfl) ?_
 refine DQ.rd rfl rfl (fun _ => rd_ix (k := 2) Tryz.under138 Tryz.size137 rfl rfl (row_slc' (e := eW) (xs := v.l) (fun _ => rfl) (by first | rfl | omega | simp) (rfl) (Has.own 0 rfl)) rfl (by first | omega | ((try simp only [H8.len, shaK_len, sched_len, w16_len, List.length_take] at *); omega)) (by omega)) ?_
 refine DQ.rd rfl rfl (fun _ => rd_el (v := .int _ _) 2 0 Tryz.one137 rfl (row_slc' (e := eW) (xs := v.l) (fun _ => rfl) (by first | rfl | omega | simp) (rfl) (Has.own 0 rfl)) rfl (by first | omega | ((try simp only [H8.len, shaK_len, sched_len, w16_len, List.length_take] at *); omega)) (Nat.le_of_ble_eq_true rfl) rfl) ?_
 refine DQ.rd rfl rfl (fun _ => rd_and32 rfl rfl) ?_
 refine DQ.rd rfl rfl (fun _ => rd_xor32 rfl rfl) ?_
 refine DQ.rd rfl rfl (fun _ => rd_move (v := .slice _ _ _) rfl) ?_
 refine DQ.rd rfl rfl (fun _ => rd_ix (k := 1) Tryz.under138 Tryz.size137 rfl rfl (row_slc' (e := eW) (xs := v.l) (fun _ => rfl) (by first | rfl | omega | simp) (rfl) (Has.own 0 rfl)) rfl (by first | omega | ((try simp only [H8.len, shaK_len, sched_len, w16_len, List.length_take] at *); omega)) (by omega)) ?_
 refine DQ.rd rfl rfl (fun _ => rd_el (v := .int _ _) 1 0 Tryz.one137 rfl (row_slc' (e := eW) (xs := v.l) (fun _ => rfl) (by first | rfl | omega | simp) (rfl) (Has.own 0 rfl)) rfl (by first | omega | ((try simp only [H8.len, shaK_len, sched_len, w16_len, List.length_take] at *); omega)) (Nat.le_of_ble_eq_true rfl) rfl) ?_
 refine DQ.rd rfl rfl (fun _ => rd_move (v := .slice _ _ _) rfl) ?_
 refine DQ.rd rfl rfl (fun _ => rd_ix (k := 2) Tryz.under138 Tryz.size137 rfl rfl (row_slc' (e := eW) (xs := v.l) (fun _ => rfl) (by first | rfl | omega | simp) (rfl) (Has.own 0 rfl)) rfl (by first | omega | ((try simp only [H8.len, shaK_len, sched_len, w16_len, List.length_take] at *); omega)) (by omega)) ?_
 refine DQ.rd rfl rfl (fun _ => rd_el (v := .int _ _) 2 0 Tryz.one137 rfl (row_slc' (e := eW) (xs := v.l) (fun _ => rfl) (by first | rfl | omega | simp) (rfl) (Has.own 0 rfl)) rfl (by first | omega | ((try simp only [H8.len, shaK_len, sched_len, w16_len, List.length_take] at *); omega)) (Nat.le_of_ble_eq_true rfl) rfl) ?_
 refine DQ.rd rfl rfl (fun _ => rd_and32 rfl rfl) ?_
 refine DQ.rd rfl rfl (fun _ => rd_xor32 rfl rfl) ?_
 refine DQ.done rfl ?_
 refine rdx (rd_add32 rfl rfl) ?_
 refine rdx (rd_assign (v := .int _ _) rfl) ?_
 refine TO.nil (TQ.then_normal ?_)
 refine T.drawq Tryz.mixes 22 [(198, 0), (199, 1), (200, 2), (201, 3), (202, 4), (203, 5), (204, 6), (205, 7), (206, 8), (207, 9), (208, 10), (209, 11), (210, 12), (211, 13), (212, 14), (213, 15), (214, 16), (215, 17), (216, 18), (217, 19), (218, 20), (219, 21)] [0, 0, 3, 0, 0, 16, 48, 0, 128, 384, 0, 1024, 3072, 0, 15360, 0, 0, 65536, 196608, 0, 524288, 1572864, 4194303, 8388607] (by kernel_rfl) ?_
 refine DQ.rd rfl rfl (fun _ => rd_move (v := .int _ _) rfl) ?_
 refine DQ.rd rfl rfl (fun _ => rd_move (v := .int _ _) rfl) ?_
 refine DQ.rd rfl rfl (fun _ => rd_add32 rfl rfl) ?_
 refine DQ.rd rfl rfl (fun _ => rd_move (v := .int _ _) rfl) ?_
 refine DQ.rd rfl rfl (fun _ => rd_move (v := .slice _ _ _) rfl) ?_
 refine DQ.rd rfl rfl (fun _ => rd_ix (k := 1) Tryz.under138 Tryz.size137 rfl rfl (row_slc' (e := eW) (xs := v.l) (fun _ => rfl) (by first | rfl | omega | simp) (rfl) (Has.own 0 rfl)) rfl (by first | omega | ((try simp only [H8.len, shaK_len, sched_len, w16_len, List.length_take] at *); omega)) (by omega)) ?_
 refine DQ.rd rfl rfl (fun _ => rd_el (v := .int _ _) 1 0 Tryz.one137 rfl (row_slc' (e := eW) (xs := v.l) (fun _ => rfl) (by first | rfl | omega | simp) (rfl) (Has.own 0 rfl)) rfl (by first | omega | ((try simp only [H8.len, shaK_len, sched_len, w16_len, List.length_take] at *); omega)) (Nat.le_of_ble_eq_true rfl) rfl) ?_
 refine DQ.rd rfl rfl (fun _ => rd_move (v := .slice _ _ _) rfl) ?_
 refine DQ.rd rfl rfl (fun _ => rd_ix (k := 2) Tryz.under138 Tryz.size137 rfl rfl (row_slc' (e := eW) (xs := v.l) (fun _ => rfl) (by first | rfl | omega | simp) (rfl) (Has.own 0 rfl)) rfl (by first | omega | ((try simp only [H8.len, shaK_len, sched_len, w16_len, List.length_take] at *); omega)) (by omega)) ?_
 refine DQ.rd rfl rfl (fun _ => rd_el (v := .int _ _) 2 0 Tryz.one137 rfl (row_slc' (e := eW) (xs := v.l) (fun _ => rfl) (by first | rfl | omega | simp) (rfl) (Has.own 0 rfl)) rfl (by first | omega | ((try simp only [H8.len, shaK_len, sched_len, w16_len, List.length_take] at *); omega)) (Nat.le_of_ble_eq_true rfl) rfl) ?_
 refine DQ.rd rfl rfl (fun _ => rd_move (v := .slice _ _ _) rfl) ?_
 refine DQ.rd rfl rfl (fun _ => rd_ix (k := 3) Tryz.under138 Tryz.size137 rfl rfl (row_slc' (e := eW) (xs := v.l) (fun _ => rfl) (by first | rfl | omega | simp) (rfl) (Has.own 0 rfl)) rfl (by first | omega | ((try simp only [H8.len, shaK_len, sched_len, w16_len, List.length_take] at *); omega)) (by omega)) ?_
 refine DQ.rd rfl rfl (fun _ => rd_el (v := .int _ _) 3 0 Tryz.one137 rfl (row_slc' (e := eW) (xs := v.l) (fun _ => rfl) (by first | rfl | omega | simp) (rfl) (Has.own 0 rfl)) rfl (by first | omega | ((try simp only [H8.len, shaK_len, sched_len, w16_len, List.length_take] at *); omega)) (Nat.le_of_ble_eq_true rfl) rfl) ?_
 refine DQ.rd rfl rfl (fun _ => rd_move (v := .int _ _) rfl) ?_
 refine DQ.rd rfl rfl (fun _ => rd_add32 rfl rfl) ?_
 refine DQ.rd rfl rfl (fun _ => rd_move (v := .int _ _) rfl) ?_
 refine DQ.rd rfl rfl (fun _ => rd_move (v := .slice _ _ _) rfl) ?_
 refine DQ.rd rfl rfl (fun _ => rd_ix (k := 5) Tryz.under138 Tryz.size137 rfl rfl (row_slc' (e := eW) (xs := v.l) (fun _ => rfl) (by first | rfl | omega | simp) (rfl) (Has.own 0 rfl)) rfl (by first | omega | ((try simp only [H8.len, shaK_len, sched_len, w16_len, List.length_take] at *); omega)) (by omega)) ?_
 refine DQ.rd rfl rfl (fun _ => rd_el (v := .int _ _) 5 0 Tryz.one137 rfl (row_slc' (e := eW) (xs := v.l) (fun _ => rfl) (by first | rfl | omega | simp) (rfl) (Has.own 0 rfl)) rfl (by first | omega | ((try simp only [H8.len, shaK_len, sched_len, w16_len, List.length_take] at *); omega)) (Nat.le_of_ble_eq_true rfl) rfl) ?_
 refine DQ.rd rfl rfl (fun _ => rd_move (v := .slice _ _ _) rfl) ?_
 refine DQ.rd rfl rfl (fun _ => rd_ix (k := 6) Tryz.under138 Tryz.size137 rfl rfl (row_slc' (e := eW) (xs := v.l) (fun _ => rfl) (by first | rfl | omega | simp) (rfl) (Has.own 0 rfl)) rfl (by first | omega | ((try simp only [H8.len, shaK_len, sched_len, w16_len, List.length_take] at *); omega)) (by omega)) ?_
 refine DQ.rd rfl rfl (fun _ => rd_el (v := .int _ _) 6 0 Tryz.one137 rfl (row_slc' (e := eW) (xs := v.l) (fun _ => rfl) (by first | rfl | omega | simp) (rfl) (Has.own 0 rfl)) rfl (by first | omega | ((try simp only [H8.len, shaK_len, sched_len, w16_len, List.length_take] at *); omega)) (Nat.le_of_ble_eq_true rfl) rfl) ?_
 refine DQ.done rfl ?_
 refine TO.buildS (cs := [.int _ _, .int _ _, .int _ _, .int _ _, .int _ _, .int _ _, .int _ _, .int _ _]) Tryz.under138 Tryz.size137 Tryz.zero137 (Nat.le_of_ble_eq_true rfl) rfl (fun b24 => ?_)
 refine rdx (rd_assign (v := .slice _ _ _) rfl) ?_
 refine TO.nil (TQ.block_normal (TQ.then_normal (T.region ?_)))
 refine rdx (rd_move (v := .int _ _) rfl) ?_
 refine rdx (rd_add rfl rfl (w64 (by first | omega | ((try simp only [H8.len, shaK_len, sched_len, w16_len, List.length_take] at *); omega)) (by first | omega | ((try simp only [H8.len, shaK_len, sched_len, w16_len, List.length_take] at *); omega)))) ?_
 refine rdx (rd_assign (v := .int _ _) rfl) ?_
 refine TO.nil ?_
 refine TQ.torow0 1 8 rfl (by decide) ?_
 refine TQ.againk ((some ⟨b24, 0, none⟩), 8, k + 1, rnd v (shaK[k]'(by rw [shaK_len]; omega), wd[k]'(by omega))) ?_ ?_ (And.intro (rfl) (And.intro (rfl) (trivial))) (And.intro (rfl) (And.intro (rfl) (And.intro (rfl) (trivial)))) (fun _ _ h => h.sel (js := [0, 2, 3, 4]) (by decide))
 ·exact ⟨by rw [rnds_succ hwl (by omega), ← hv], by dsimp only; omega⟩
 ·first | omega | (dsimp only; omega)
end Go.Proofs
end
section
set_option linter.unusedVariables false
set_option linter.unusedSimpArgs false
set_option maxRecDepth 100000
set_option maxHeartbeats 800000
namespace Go.Proofs
open Go.TL
attribute [local irreducible] Go.TL.T Go.TL.TO Go.TL.TQ
theorem Tryz.under110 : Tryz.prog.underlying 110 = some (.slice 3) := by kernel_rfl
theorem Tryz.zero3 : TyZero Tryz.prog 3 (.int .i64 0) := fun w => by kernel_rfl
theorem Tryz.enters67 : Enters Tryz.prog 67 := fun args w => by kernel_rfl
end Go.Proofs
end
section
set_option linter.unusedVariables false
set_option linter.unusedSimpArgs false
set_option maxRecDepth 100000
set_option maxHeartbeats 800000
namespace Go.Proofs
open Go.TL
attribute [local irreducible] Go.TL.T Go.TL.TO Go.TL.TQ
theorem c_ref15_puts (A : Option Addr) (cap n : Nat) (l : List Int) (hn : n = l.length) (hl : l.length ≤ 1000) : Cv Tryz.prog 67 #[.slice A n cap] [slc eInt 1 A l] (.string (str (puts l))) := by
 subst hn
 refine Ctr.intro Tryz.func67 rfl Tryz.ntmps67 (Nat.le_of_ble_eq_true rfl) fun S0 w0 => ?_
 refine T.seq (T.region ?_)
 refine rdx (rd_assign (v := .string _) rfl) ?_
 refine TO.nil (TQ.then_normal (T.seq (T.region ?_)))
 refine rdx (rd_assign (v := .string _) rfl) ?_
 refine TO.nil (TQ.then_normal (T.seq (T.seq (T.region ?_))))
 refine rdx (rd_assign (v := .int _ _) rfl) ?_
 refine TO.nil (TQ.then_normal (T.block ?_))
 refine T.loop1 [0] (fun (k : Nat) => [(4, .int .i64 (k : Nat)), (3, .string (str (puts (l.take k))))]) (fun (k : Nat) => []) (fun (k : Nat) => k ≤ l.length) (fun (k : Nat) => l.length - k) (0) (Nat.zero_le _) (And.intro (rfl) (And.intro (rfl) (trivial))) (fun _ _ h => h) fun k g0 hx0 => ?_
 refine T.seq (T.seq (T.region ?_))
 refine rdx (rd_move (v := .int _ _) rfl) ?_
 refine rdx (rd_move (v := .slice _ _ _) rfl) ?_
 refine rdx (rd_lensl Tryz.under110 rfl) ?_
 refine rdx (rd_lss rfl rfl) ?_
 refine TO.nil (TQ.then_normal ?_)
 refine T.cond_ft rfl (fun h1 => ?_) (fun h1 => ?_)
 ·try simp only [nrm] at h1
  refine T.exit (TQ.then_exit (TQ.then_exit (TQ.block_out (TQ.then_normal (T.seq (T.region ?_))))))
  refine rdx (rd_move (v := .string _) rfl) ?_
  refine rdx (rd_assign (v := .string _) rfl) ?_
  refine TO.nil (TQ.then_normal (T.ret ?_))
  refine TQ.value ?_ (res1 Tryz.results67 (Res.tmp (v := .string _) rfl)) _ (.inl rfl)
  rw [List.take_of_length_le (by omega)]
 try simp only [nrm] at h1
 refine T.skip (TQ.then_normal (T.seq (T.block (T.seq (T.region ?_)))))
 refine rdx (rd_move (v := .slice _ _ _) rfl) ?_
 refine rdx (rd_move (v := .int _ _) rfl) ?_
 refine rdx (rd_ix Tryz.under110 Tryz.size3 rfl rfl (Has.arg 0 rfl) rfl (by omega) (by omega)) ?_
 refine rdx (rd_el (v := .int _ _) _ 0 Tryz.one3 rfl (Has.arg 0 rfl) rfl (by omega) (Nat.le_of_ble_eq_true rfl) rfl) ?_
 refine TO.fn Tryz.enters94 (c_ref01_PutInt _) rfl Reads0 ?_
 refine rdx (rd_move (v := .tuple _) rfl) ?_
 refine rdx (rd_extract (v := .string _) (vs := _) rfl rfl) ?_
 refine rdx (rd_extract (v := .int _ _) (vs := _) rfl rfl) ?_
 refine rdx (rd_assign (v := .string _) rfl) ?_
 refine rdx (rd_assign (v := .int _ _) rfl) ?_
 refine TO.nil (TQ.then_normal (T.region ?_))
 refine rdx (rd_move (v := .string _) rfl) ?_
 refine rdx (rd_move (v := .string _) rfl) ?_
 refine rdx (rd_cat' (c := puts (l.take (k + 1))) rfl rfl (by have h1 := puts_length (l.take k); have h2 := putInt_length (l[k]'(by omega)); rw [List.length_take] at h1; omega) (by rw [← take_snoc (by omega), puts_snoc])) ?_
 refine rdx (rd_assign (v := .string _) rfl) ?_
 refine TO.nil (TQ.block_normal (TQ.then_normal (T.region ?_)))
 refine rdx (rd_move (v := .int _ _) rfl) ?_
 refine rdx (rd_add rfl rfl (w64 (by omega) (by omega))) ?_
 refine rdx (rd_assign (v := .int _ _) rfl) ?_
 refine TO.nil ?_
 refine TQ.againk (k + 1) ?_ ?_ (And.intro (rfl) (And.intro (rfl) (trivial))) (And.intro (rfl) (trivial)) (fun _ _ h => h)
 ·first | omega | (dsimp only; omega)
 ·first | omega | (dsimp only; omega)
theorem c_ref15_ProxyContent (p : Proxy) : Cv Tryz.prog 36 #[proxyV p] [] (.string (str (proxyText p))) := by
 refine Ctr.intro Tryz.func36 rfl Tryz.ntmps36 (Nat.le_of_ble_eq_true rfl) fun S0 w0 => ?_
 refine T.seq (T.region ?_)
 refine TO.box (v := .agg #[.int _ _, .int _ _, .int _ _, .int _ _, .int _ _, .int _ _, .string _]) rfl (fun b1 => ?_)
 refine rdx (rd_assign (v := .string _) rfl) ?_
 refine TO.nil (TQ.then_normal (T.seq (T.region ?_)))
 refine rdx (rd_fieldAddr Tryz.field40_0 rfl) ?_
 refine rdx (rd_load (v := .int _ _) Tryz.one3 rfl (Has.own 0 rfl) rfl) ?_
 refine rdx (rd_fieldAddr Tryz.field40_1 rfl) ?_
 refine rdx (rd_load (v := .int _ _) Tryz.one3 rfl (Has.own 0 rfl) rfl) ?_
 refine rdx (rd_fieldAddr Tryz.field40_2 rfl) ?_
 refine rdx (rd_fieldAddr Tryz.field27_0 rfl) ?_
 refine rdx (rd_load (v := .int _ _) Tryz.one3 rfl (Has.own 0 rfl) rfl) ?_
 refine rdx (rd_fieldAddr Tryz.field40_2 rfl) ?_
 refine rdx (rd_fieldAddr Tryz.field27_1 rfl) ?_
 refine rdx (rd_load (v := .int _ _) Tryz.one3 rfl (Has.own 0 rfl) rfl) ?_
 refine rdx (rd_fieldAddr Tryz.field40_3 rfl) ?_
 refine rdx (rd_fieldAddr Tryz.field28_0 rfl) ?_
 refine rdx (rd_load (v := .int _ _) Tryz.one3 rfl (Has.own 0 rfl) rfl) ?_
 refine rdx (rd_fieldAddr Tryz.field40_3 rfl) ?_
 refine rdx (rd_fieldAddr Tryz.field28_1 rfl) ?_
 refine rdx (rd_load (v := .int _ _) Tryz.one3 rfl (Has.own 0 rfl) rfl) ?_
 refine TO.buildS (cs := [.int _ _, .int _ _, .int _ _, .int _ _, .int _ _, .int _ _, .int _ _]) Tryz.under110 Tryz.size3 Tryz.zero3 (Nat.le_of_ble_eq_true rfl) rfl (fun b2 => ?_)
 refine TO.fn Tryz.enters67 (c_ref15_puts _ _ _ [2, p.frm, p.to, p.rlo, p.rhi, p.slo, p.shi] (by first | rfl | simp | omega) (by simp)) rfl (ReadsC (own_slc (e := eInt) [2, p.frm, p.to, p.rlo, p.rhi, p.slo, p.shi] rfl (fun _ => rfl) (Has.own 0 rfl) (by simp)) Reads0) ?_
 refine rdx (rd_assign (v := .string _) rfl) ?_
 refine TO.nil (TQ.then_normal (T.ret ?_))
 refine TQ.value ?_ (res1 Tryz.results36 (Res.tmp (v := .string _) rfl)) _ (.inl rfl)
 rfl
theorem c_ref15_WishContent (w : Wish) : Cv Tryz.prog 35 #[wishV w] [] (.string (str (wishText w))) := by
 refine Ctr.intro Tryz.func35 rfl Tryz.ntmps35 (Nat.le_of_ble_eq_true rfl) fun S0 w0 => ?_
 refine T.seq (T.region ?_)
 refine TO.box (v := .agg #[.int _ _, .int _ _, .int _ _, .int _ _, .int _ _, .int _ _, .int _ _, .int _ _, .string _]) rfl (fun b1 => ?_)
 refine rdx (rd_assign (v := .string _) rfl) ?_
 refine TO.nil (TQ.then_normal (T.seq (T.region ?_)))
 refine rdx (rd_fieldAddr Tryz.field30_0 rfl) ?_
 refine rdx (rd_load (v := .int _ _) Tryz.one3 rfl (Has.own 0 rfl) rfl) ?_
 refine rdx (rd_fieldAddr Tryz.field30_1 rfl) ?_
 refine rdx (rd_load (v := .int _ _) Tryz.one3 rfl (Has.own 0 rfl) rfl) ?_
 refine rdx (rd_fieldAddr Tryz.field30_2 rfl) ?_
 refine rdx (rd_fieldAddr Tryz.field27_0 rfl) ?_
 refine rdx (rd_load (v := .int _ _) Tryz.one3 rfl (Has.own 0 rfl) rfl) ?_
 refine rdx (rd_fieldAddr Tryz.field30_2 rfl) ?_
 refine rdx (rd_fieldAddr Tryz.field27_1 rfl) ?_
 refine rdx (rd_load (v := .int _ _) Tryz.one3 rfl (Has.own 0 rfl) rfl) ?_
 refine rdx (rd_fieldAddr Tryz.field30_3 rfl) ?_
 refine rdx (rd_load (v := .int _ _) Tryz.one3 rfl (Has.own 0 rfl) rfl) ?_
 refine rdx (rd_fieldAddr Tryz.field30_4 rfl) ?_
 refine rdx (rd_load (v := .int _ _) Tryz.one3 rfl (Has.own 0 rfl) rfl) ?_
 refine rdx (rd_fieldAddr Tryz.field30_5 rfl) ?_
 refine rdx (rd_fieldAddr Tryz.field28_0 rfl) ?_
 refine rdx (rd_load (v := .int _ _) Tryz.one3 rfl (Has.own 0 rfl) rfl) ?_
 refine rdx (rd_fieldAddr Tryz.field30_5 rfl) ?_
 refine rdx (rd_fieldAddr Tryz.field28_1 rfl) ?_
 refine rdx (rd_load (v := .int _ _) Tryz.one3 rfl (Has.own 0 rfl) rfl) ?_
 refine TO.buildS (cs := [.int _ _, .int _ _, .int _ _, .int _ _, .int _ _, .int _ _, .int _ _, .int _ _, .int _ _]) Tryz.under110 Tryz.size3 Tryz.zero3 (Nat.le_of_ble_eq_true rfl) rfl (fun b2 => ?_)
 refine TO.fn Tryz.enters67 (c_ref15_puts _ _ _ [1, w.signer, w.holder, w.rlo, w.rhi, w.carrier, w.serial, w.slo, w.shi] (by first | rfl | simp | omega) (by simp)) rfl (ReadsC (own_slc (e := eInt) [1, w.signer, w.holder, w.rlo, w.rhi, w.carrier, w.serial, w.slo, w.shi] rfl (fun _ => rfl) (Has.own 0 rfl) (by simp)) Reads0) ?_
 refine rdx (rd_assign (v := .string _) rfl) ?_
 refine TO.nil (TQ.then_normal (T.ret ?_))
 refine TQ.value ?_ (res1 Tryz.results35 (Res.tmp (v := .string _) rfl)) _ (.inl rfl)
 rfl
end Go.Proofs
end
section
set_option linter.unusedVariables false
set_option linter.unusedSimpArgs false
set_option maxRecDepth 100000
set_option maxHeartbeats 800000
namespace Go.Proofs
open Go.TL
attribute [local irreducible] Go.TL.T Go.TL.TO Go.TL.TQ
theorem c_ref02_Sum (s : Bytes) (hs : s.length ≤ 1000000000000) : Cv Tryz.prog 78 #[.string (str s)] [] (.string (str (sha s))) := by
 refine Ctr.intro Tryz.func78 rfl Tryz.ntmps78 (Nat.le_of_ble_eq_true rfl) fun S0 w0 => ?_
 refine T.seq (T.region ?_)
 refine rdx (rd_assign (v := .string _) rfl) ?_
 refine TO.nil (TQ.then_normal (T.seq (T.region ?_)))
 refine TO.buildS (cs := [.int _ _, .int _ _, .int _ _, .int _ _, .int _ _, .int _ _, .int _ _, .int _ _]) Tryz.under138 Tryz.size137 Tryz.zero137 (Nat.le_of_ble_eq_true rfl) rfl (fun b1 => ?_)
 refine rdx (rd_assign (v := .slice _ _ _) rfl) ?_
 refine TO.nil (TQ.then_normal (T.seq (T.region ?_)))
 refine rdx (rd_move (v := .string _) rfl) ?_
 refine TO.fnx Tryz.enters97 (c_ref02_extended _ (by omega)) rfl Reads0 (fun ⟨A2, cap3⟩ hx4 => ?_)
 replace hx4 : (pad s).length ≤ cap3 := hx4
 refine rdx (rd_assign (v := .slice _ _ _) rfl) ?_
 refine TO.nil (TQ.then_normal (T.seq (T.seq (T.region ?_))))
 refine rdx (rd_assign (v := .int _ _) rfl) ?_
 refine TO.nil (TQ.then_normal (T.block ?_))
 refine T.front1 ?_
 refine T.torow0 1 8 rfl (by decide) ?_
 have hp64 := pad_len s
 have hpl := pad_le s
 refine T.loop4 [4] (fun (A1 : Option Addr) (cap1 : Nat) (q : Nat) (h : H8) => [(3, .slice A1 8 cap1), (5, .int .i64 ((64 * q : Nat) : Int))]) (fun (A1 : Option Addr) (cap1 : Nat) (q : Nat) (h : H8) => [row 137 1 A1 8 cap1 (h.l.flatMap eW)]) (fun (A1 : Option Addr) (cap1 : Nat) (q : Nat) (h : H8) => shaBlocks ((pad s).length / 64 - q) h ((pad s).drop (64 * q)) = shaBlocks ((pad s).length / 64) shaH (pad s) ∧ 64 * q ≤ (pad s).length) (fun (A1 : Option Addr) (cap1 : Nat) (q : Nat) (h : H8) => (pad s).length - 64 * q) ((some ⟨b1, 0, none⟩)) (8) (0) (shaH) (⟨by rw [Nat.mul_zero, Nat.sub_zero, List.drop_zero], Nat.zero_le _⟩) (And.intro (rfl) (And.intro (rfl) (trivial))) (fun _ _ h => h) fun A1 cap1 q h g0 hx0 => ?_
 obtain ⟨hB, hq⟩ := hx0
 refine T.seq (T.seq (T.region ?_))
 refine rdx (rd_move (v := .int _ _) rfl) ?_
 refine rdx (rd_move (v := .slice _ _ _) rfl) ?_
 refine rdx (rd_lensl Tryz.under62 rfl) ?_
 refine rdx (rd_lss rfl rfl) ?_
 refine TO.nil (TQ.then_normal ?_)
 refine T.cond rfl (fun h6 => ?_) (fun h6 => ?_)
 ·try simp only [nrm] at h6
  refine T.skip (TQ.then_normal (T.seq (T.block (T.region ?_))))
  refine rdx (rd_move (v := .slice _ _ _) rfl) ?_
  refine rdx (rd_move (v := .slice _ _ _) rfl) ?_
  refine rdx (rd_move (v := .int _ _) rfl) ?_
  refine rdx (rd_move (v := .int _ _) rfl) ?_
  refine rdx (rd_add rfl rfl (w64 (by first | omega | (have := pad_le s; omega)) (by first | omega | (have := pad_le s; omega)))) ?_
  refine rdx (rd_sub_slice (i := 64 * q) (j := 64 * q + 64) Tryz.under62 Tryz.size5 rfl (.inr ⟨_, rfl⟩) (.inr ⟨_, rfl⟩) (by omega) (by omega) (by omega)) ?_
  refine TO.fnx Tryz.enters98 (c_ref02_block _ _ _ h.l (by first | rfl | (simp only [List.length_drop, List.length_take]; omega)) _ _ _ (((pad s).take (64 * q + 64)).drop (64 * q)) (by first | rfl | (simp only [List.length_drop, List.length_take]; omega)) _ rfl (by first | rfl | (simp only [List.length_drop, List.length_take]; omega))) rfl (ReadsC (row_slc' (e := eW) (xs := h.l) (fun _ => rfl) (by first | rfl | omega | simp) (rfl) (Has.own 0 rfl)) (ReadsC (slc_sub (i := 64 * q) (j := 64 * q + 64) (cap := cap3) (row_slc' (e := eByte) (xs := (pad s)) (fun _ => rfl) (rfl) (bytesC_flat _) (Has.own 1 rfl)) (by omega) (by omega) (by omega)) Reads0)) (fun ⟨A7, cap8⟩ hx9 => ?_)
  refine rdx (rd_assign (v := .slice _ _ _) rfl) ?_
  refine TO.nil (TQ.block_normal (TQ.then_normal (T.region ?_)))
  refine rdx (rd_move (v := .int _ _) rfl) ?_
  refine rdx (rd_add rfl rfl (w64 (by first | omega | (have := pad_le s; omega)) (by first | omega | (have := pad_le s; omega)))) ?_
  refine rdx (rd_assign (v := .int _ _) rfl) ?_
  refine TO.nil ?_
  refine TQ.againk (A7, cap8, q + 1, shaBlock h (((pad s).take (64 * q + 64)).drop (64 * q))) ?_ ?_ (And.intro (rfl) (And.intro (rfl) (trivial))) (And.intro (rfl) (trivial)) (fun _ _ h => h.sel (js := [0, 2]) (by decide))
  ·refine ⟨?_, by dsimp only; omega⟩
   rw [← hB, show (pad s).length / 64 - q = ((pad s).length / 64 - (q + 1)) + 1 by omega, shaBlocks_succ, List.drop_drop, List.drop_take]
   dsimp only
   rw [show 64 * q + 64 - 64 * q = 64 by omega]
   rfl
  ·first | omega | (dsimp only; omega)
 try simp only [nrm] at h6
 refine T.exit (TQ.then_exit (TQ.then_exit (TQ.block_out (TQ.then_normal (T.seq (T.region ?_))))))
 refine rdx (rd_assign (v := .slice none 0 0) rfl) ?_
 refine TO.newrow 5 1 ?_
 refine TO.nil (TQ.then_normal (T.seq (T.seq (T.region ?_))))
 refine rdx (rd_assign (v := .int _ _) rfl) ?_
 refine TO.nil (TQ.then_normal (T.block ?_))
 have hH : h = shaBlocks ((pad s).length / 64) shaH (pad s) := by
  rw [show (pad s).length / 64 - q = 0 by omega] at hB; rw [← hB]; rfl
 have hl8 : h.l.length = 8 := rfl
 refine T.loop3 [3] (fun (A2 : Option Addr) (cap2 : Nat) (k : Nat) => [(6, .slice A2 (4 * k) cap2), (7, .int .i64 (k : Nat))]) (fun (A2 : Option Addr) (cap2 : Nat) (k : Nat) => [row 5 1 A2 (4 * k) cap2 (bytesC ((h.l.take k).flatMap be4))]) (fun (A2 : Option Addr) (cap2 : Nat) (k : Nat) => k ≤ 8) (fun (A2 : Option Addr) (cap2 : Nat) (k : Nat) => 8 - k) (none) (0) (0) (Nat.zero_le _) (And.intro (rfl) (And.intro (rfl) (trivial))) (fun _ _ h => h) fun A2 cap2 k g1 hx1 => ?_
 refine T.seq (T.seq (T.region ?_))
 refine rdx (rd_move (v := .int _ _) rfl) ?_
 refine rdx (rd_lss rfl rfl) ?_
 refine TO.nil (TQ.then_normal ?_)
 refine T.cond_ft rfl (fun h12 => ?_) (fun h12 => ?_)
 ·try simp only [nrm] at h12
  refine T.exit (TQ.then_exit (TQ.then_exit (TQ.block_out (TQ.then_normal (T.seq (T.region ?_))))))
  refine rdx (rd_move (v := .slice _ _ _) rfl) ?_
  refine rdx (rd_row_str Tryz.under62 Tryz.under5 Tryz.under9 rfl (Has.own 0 rfl)) ?_
  refine rdx (rd_assign (v := .string _) rfl) ?_
  refine TO.nil (TQ.then_normal (T.ret ?_))
  refine TQ.value ?_ (res1 Tryz.results78 (Res.tmp (v := .string _) rfl)) _ (.inl rfl)
  rw [sha, ← hH, List.take_of_length_le (by omega)]
 try simp only [nrm] at h12
 refine T.skip (TQ.then_normal (T.seq (T.block ?_)))
 refine T.drawg Tryz.mixes 25 [(28, 0), (29, 1), (30, 2), (31, 3), (32, 4), (33, 5), (34, 6), (35, 7), (36, 8), (37, 9), (38, 10), (39, 11), (40, 12), (41, 13), (42, 14), (43, 15), (44, 16), (45, 17), (46, 18), (47, 19), (48, 20), (49, 21), (50, 22), (51, 23), (52, 24)] [0, 0, 0, 6, 14, 30, 62, 0, 0, 384, 896, 1920, 3968, 0, 0, 24576, 57344, 122880, 253952, 0, 0, 1572864, 3670016, 7864320, 16777214, 33554431, 67108863] [24] (by kernel_rfl) ?_
 refine DG.rd rfl rfl rfl (fun _ _ => rd_move (v := .slice _ _ _) rfl) ?_
 refine DG.rd rfl rfl rfl (fun _ _ => rd_move (v := .slice _ _ _) rfl) ?_
 refine DG.rd rfl rfl rfl (fun _ _ => rd_move (v := .int _ _) rfl) ?_
 refine DG.rd rfl rfl rfl (fun _ _ => rd_ix Tryz.under138 Tryz.size137 rfl rfl (row_slc' (e := eW) (xs := h.l) (fun _ => rfl) (by first | rfl | omega | simp) (rfl) (Has.own 1 rfl)) rfl (by first | omega | (have := pad_le s; omega)) (by first | omega | (have := pad_le s; omega))) ?_
 refine DG.rd rfl rfl rfl (fun _ _ => rd_el (v := .int _ _) _ 0 Tryz.one137 rfl (row_slc' (e := eW) (xs := h.l) (fun _ => rfl) (by first | rfl | omega | simp) (rfl) (Has.own 1 rfl)) rfl (by first | omega | (have := pad_le s; omega)) (Nat.le_of_ble_eq_true rfl) rfl) ?_
 refine DG.rd rfl rfl rfl (fun _ _ => rd_shr32 (k := 24) rfl rfl (rfl) (by decide)) ?_
 refine DG.rd rfl rfl rfl (fun _ _ => rd_conv32_8 Tryz.isome137 Tryz.under5 rfl) ?_
 refine DG.rd rfl rfl rfl (fun _ _ => rd_move (v := .slice _ _ _) rfl) ?_
 refine DG.rd rfl rfl rfl (fun _ _ => rd_move (v := .int _ _) rfl) ?_
 refine DG.rd rfl rfl rfl (fun _ _ => rd_ix Tryz.under138 Tryz.size137 rfl rfl (row_slc' (e := eW) (xs := h.l) (fun _ => rfl) (by first | rfl | omega | simp) (rfl) (Has.own 1 rfl)) rfl (by first | omega | (have := pad_le s; omega)) (by first | omega | (have := pad_le s; omega))) ?_
 refine DG.rd rfl rfl rfl (fun _ _ => rd_el (v := .int _ _) _ 0 Tryz.one137 rfl (row_slc' (e := eW) (xs := h.l) (fun _ => rfl) (by first | rfl | omega | simp) (rfl) (Has.own 1 rfl)) rfl (by first | omega | (have := pad_le s; omega)) (Nat.le_of_ble_eq_true rfl) rfl) ?_
 refine DG.rd rfl rfl rfl (fun _ _ => rd_shr32 (k := 16) rfl rfl (rfl) (by decide)) ?_
 refine DG.rd rfl rfl rfl (fun _ _ => rd_conv32_8 Tryz.isome137 Tryz.under5 rfl) ?_
 refine DG.rd rfl rfl rfl (fun _ _ => rd_move (v := .slice _ _ _) rfl) ?_
 refine DG.rd rfl rfl rfl (fun _ _ => rd_move (v := .int _ _) rfl) ?_
 refine DG.rd rfl rfl rfl (fun _ _ => rd_ix Tryz.under138 Tryz.size137 rfl rfl (row_slc' (e := eW) (xs := h.l) (fun _ => rfl) (by first | rfl | omega | simp) (rfl) (Has.own 1 rfl)) rfl (by first | omega | (have := pad_le s; omega)) (by first | omega | (have := pad_le s; omega))) ?_
 refine DG.rd rfl rfl rfl (fun _ _ => rd_el (v := .int _ _) _ 0 Tryz.one137 rfl (row_slc' (e := eW) (xs := h.l) (fun _ => rfl) (by first | rfl | omega | simp) (rfl) (Has.own 1 rfl)) rfl (by first | omega | (have := pad_le s; omega)) (Nat.le_of_ble_eq_true rfl) rfl) ?_
 refine DG.rd rfl rfl rfl (fun _ _ => rd_shr32 (k := 8) rfl rfl (rfl) (by decide)) ?_
 refine DG.rd rfl rfl rfl (fun _ _ => rd_conv32_8 Tryz.isome137 Tryz.under5 rfl) ?_
 refine DG.rd rfl rfl rfl (fun _ _ => rd_move (v := .slice _ _ _) rfl) ?_
 refine DG.rd rfl rfl rfl (fun _ _ => rd_move (v := .int _ _) rfl) ?_
 refine DG.rd rfl rfl rfl (fun _ _ => rd_ix Tryz.under138 Tryz.size137 rfl rfl (row_slc' (e := eW) (xs := h.l) (fun _ => rfl) (by first | rfl | omega | simp) (rfl) (Has.own 1 rfl)) rfl (by first | omega | (have := pad_le s; omega)) (by first | omega | (have := pad_le s; omega))) ?_
 refine DG.rd rfl rfl rfl (fun _ _ => rd_el (v := .int _ _) _ 0 Tryz.one137 rfl (row_slc' (e := eW) (xs := h.l) (fun _ => rfl) (by first | rfl | omega | simp) (rfl) (Has.own 1 rfl)) rfl (by first | omega | (have := pad_le s; omega)) (Nat.le_of_ble_eq_true rfl) rfl) ?_
 refine DG.rd rfl rfl rfl (fun _ _ => rd_conv32_8 Tryz.isome137 Tryz.under5 rfl) ?_
 refine DG.buildS (cs := [.int _ _, .int _ _, .int _ _, .int _ _]) rfl rfl Tryz.under62 Tryz.size5 Tryz.zero5 (Nat.le_of_ble_eq_true rfl) (fun _ _ => rfl) ?_
 refine DG.done rfl (by decide) rfl (fun gh14 => ?_)
 refine TO.front1 ?_
 refine TO.app Tryz.trow5 Tryz.under62 (.inl ⟨_, Tryz.under62⟩) rfl rfl (Src.own1 1 rfl rfl) rfl rfl (by omega) (fun A15 c16 hc17 => ?_)
 refine TO.row_eq (cs' := bytesC ((h.l.take (k + 1)).flatMap be4)) rfl (by rw [← take_snoc (by omega), List.flatMap_append, bytesC_append]; rfl) ?_
 refine rdx (rd_assign (v := .slice _ _ _) rfl) ?_
 refine TO.nil (TQ.block_normal (TQ.then_normal (T.region ?_)))
 refine rdx (rd_move (v := .int _ _) rfl) ?_
 refine rdx (rd_add rfl rfl (w64 (by first | omega | (have := pad_le s; omega)) (by first | omega | (have := pad_le s; omega)))) ?_
 refine rdx (rd_assign (v := .int _ _) rfl) ?_
 refine TO.nil ?_
 refine TQ.againk (A15, c16, k + 1) ?_ ?_ (And.intro (rfl) (And.intro (rfl) (trivial))) (And.intro (rfl) (trivial)) (fun _ _ h => h.sel (js := [0, 2, 3]) (by decide))
 ·first | omega | (dsimp only; omega)
 ·first | omega | (dsimp only; omega)
theorem c_ref02_Leaf (s : Bytes) (hs : s.length ≤ 900000000000) : Cv Tryz.prog 79 #[.string (str s)] [] (.string (str (leafOf s))) := by
 refine Ctr.intro Tryz.func79 rfl Tryz.ntmps79 (Nat.le_of_ble_eq_true rfl) fun S0 w0 => ?_
 refine T.seq (T.region ?_)
 refine rdx (rd_assign (v := .string _) rfl) ?_
 refine TO.nil (TQ.then_normal (T.seq (T.region ?_)))
 refine rdx (rd_move (v := .string _) rfl) ?_
 refine rdx (rd_cat' rfl rfl (by first | omega | exact wishText_le _ | exact proxyText_le _ | exact puts3_le _ _ _ | (simp only [List.length_append, List.length_cons, List.length_nil, sha_len, leafOf_len, nodeOf_len, sealOf_len, List.length_take, List.length_drop]; omega) | (rw [keyB_len]; omega)) rfl) ?_
 refine TO.fn Tryz.enters78 (c_ref02_Sum _ (by first | omega | exact wishText_le _ | exact proxyText_le _ | exact puts3_le _ _ _ | (simp only [List.length_append, List.length_cons, List.length_nil, sha_len, leafOf_len, nodeOf_len, sealOf_len, List.length_take, List.length_drop]; omega) | (rw [keyB_len]; omega))) rfl Reads0 ?_
 refine rdx (rd_assign (v := .string _) rfl) ?_
 refine TO.nil (TQ.then_normal (T.ret ?_))
 refine TQ.value ?_ (res1 Tryz.results79 (Res.tmp (v := .string _) rfl)) _ (.inl rfl)
 rfl
theorem c_ref02_Node (a b : Bytes) (ha : a.length ≤ 400000000000) (hb : b.length ≤ 400000000000) : Cv Tryz.prog 91 #[.string (str a), .string (str b)] [] (.string (str (nodeOf a b))) := by
 refine Ctr.intro Tryz.func91 rfl Tryz.ntmps91 (Nat.le_of_ble_eq_true rfl) fun S0 w0 => ?_
 refine T.seq (T.region ?_)
 refine rdx (rd_assign (v := .string _) rfl) ?_
 refine TO.nil (TQ.then_normal (T.seq (T.region ?_)))
 refine rdx (rd_move (v := .string _) rfl) ?_
 refine rdx (rd_cat' rfl rfl (by first | omega | exact wishText_le _ | exact proxyText_le _ | exact puts3_le _ _ _ | (simp only [List.length_append, List.length_cons, List.length_nil, sha_len, leafOf_len, nodeOf_len, sealOf_len, List.length_take, List.length_drop]; omega) | (rw [keyB_len]; omega)) rfl) ?_
 refine rdx (rd_move (v := .string _) rfl) ?_
 refine rdx (rd_cat' rfl rfl (by first | omega | exact wishText_le _ | exact proxyText_le _ | exact puts3_le _ _ _ | (simp only [List.length_append, List.length_cons, List.length_nil, sha_len, leafOf_len, nodeOf_len, sealOf_len, List.length_take, List.length_drop]; omega) | (rw [keyB_len]; omega)) rfl) ?_
 refine TO.fn Tryz.enters78 (c_ref02_Sum _ (by first | omega | exact wishText_le _ | exact proxyText_le _ | exact puts3_le _ _ _ | (simp only [List.length_append, List.length_cons, List.length_nil, sha_len, leafOf_len, nodeOf_len, sealOf_len, List.length_take, List.length_drop]; omega) | (rw [keyB_len]; omega))) rfl Reads0 ?_
 refine rdx (rd_assign (v := .string _) rfl) ?_
 refine TO.nil (TQ.then_normal (T.ret ?_))
 refine TQ.value ?_ (res1 Tryz.results91 (Res.tmp (v := .string _) rfl)) _ (.inl rfl)
 rfl
theorem c_ref15_Seal (a b : Bytes) (ha : a.length ≤ 400000000000) (hb : b.length ≤ 400000000000) : Cv Tryz.prog 58 #[.string (str a), .string (str b)] [] (.string (str (sealOf a b))) := by
 refine Ctr.intro Tryz.func58 rfl Tryz.ntmps58 (Nat.le_of_ble_eq_true rfl) fun S0 w0 => ?_
 refine T.seq (T.region ?_)
 refine rdx (rd_assign (v := .string _) rfl) ?_
 refine TO.nil (TQ.then_normal (T.seq (T.region ?_)))
 refine rdx (rd_move (v := .string _) rfl) ?_
 refine rdx (rd_move (v := .string _) rfl) ?_
 refine TO.fn Tryz.enters79 (c_ref02_Leaf _ (by first | omega | exact wishText_le _ | exact proxyText_le _ | exact puts3_le _ _ _ | (simp only [List.length_append, List.length_cons, List.length_nil, sha_len, leafOf_len, nodeOf_len, sealOf_len, List.length_take, List.length_drop]; omega) | (rw [keyB_len]; omega))) rfl Reads0 ?_
 refine TO.fn Tryz.enters91 (c_ref02_Node _ _ (by first | omega | exact wishText_le _ | exact proxyText_le _ | exact puts3_le _ _ _ | (simp only [List.length_append, List.length_cons, List.length_nil, sha_len, leafOf_len, nodeOf_len, sealOf_len, List.length_take, List.length_drop]; omega) | (rw [keyB_len]; omega)) (by first | omega | exact wishText_le _ | exact proxyText_le _ | exact puts3_le _ _ _ | (simp only [List.length_append, List.length_cons, List.length_nil, sha_len, leafOf_len, nodeOf_len, sealOf_len, List.length_take, List.length_drop]; omega) | (rw [keyB_len]; omega))) rfl Reads0 ?_
 refine rdx (rd_assign (v := .string _) rfl) ?_
 refine TO.nil (TQ.then_normal (T.ret ?_))
 refine TQ.value ?_ (res1 Tryz.results58 (Res.tmp (v := .string _) rfl)) _ (.inl rfl)
 rfl
end Go.Proofs
end
section
set_option linter.unusedVariables false
set_option linter.unusedSimpArgs false
set_option maxRecDepth 100000
set_option maxHeartbeats 800000
namespace Go.Proofs
open Go.TL
attribute [local irreducible] Go.TL.T Go.TL.TO Go.TL.TQ
theorem c_ref15_pick (c n : Int) (c0 : -9223372036854775808 ≤ c) (c1 : c ≤ 9223372036854775807) (hn0 : 0 < n) (hn1 : n ≤ 9223372036854775807) : Cv Tryz.prog 40 #[.int .i64 c, .int .i64 n] [] (.int .i64 (pickN c n)) := by
 refine Ctr.intro Tryz.func40 rfl Tryz.ntmps40 (Nat.le_of_ble_eq_true rfl) fun S0 w0 => ?_
 refine T.seq (T.region ?_)
 refine rdx (rd_assign (v := .int _ _) rfl) ?_
 refine TO.nil (TQ.then_normal (T.seq (T.seq (T.region ?_))))
 refine rdx (rd_move (v := .int _ _) rfl) ?_
 refine rdx (rd_lss rfl rfl) ?_
 refine TO.nil (TQ.then_normal ?_)
 refine T.cond_ft rfl (fun h1 => ?_) (fun h1 => ?_)
 ·try simp only [nrm] at h1
  refine T.skip (TQ.then_normal (T.seq (T.region ?_)))
  refine rdx (rd_move (v := .int _ _) rfl) ?_
  refine rdx (rd_move (v := .int _ _) rfl) ?_
  refine rdx (rd_rem rfl rfl (by omega) (Int.tmod_eq_emod_of_nonneg (by omega))) ?_
  refine rdx (rd_assign (v := .int _ _) rfl) ?_
  refine TO.nil (TQ.then_normal (T.ret ?_))
  refine TQ.value ?_ (res1 Tryz.results40 (Res.tmp (v := .int _ _) rfl)) _ (.inl rfl)
  rw [pickN, if_neg (by omega)]
 try simp only [nrm] at h1
 refine T.region ?_
 refine rdx (rd_move (v := .int _ _) rfl) ?_
 refine rdx (rd_add rfl rfl (w64 (by omega) (by omega))) ?_
 refine rdx (rd_neg rfl (w64 (by omega) (by omega))) ?_
 refine rdx (rd_assign (v := .int _ _) rfl) ?_
 refine TO.nil (TQ.then_normal (T.seq (T.region ?_)))
 refine rdx (rd_move (v := .int _ _) rfl) ?_
 refine rdx (rd_move (v := .int _ _) rfl) ?_
 refine rdx (rd_rem rfl rfl (by omega) (Int.tmod_eq_emod_of_nonneg (by omega))) ?_
 refine rdx (rd_assign (v := .int _ _) rfl) ?_
 refine TO.nil (TQ.then_normal (T.ret ?_))
 refine TQ.value ?_ (res1 Tryz.results40 (Res.tmp (v := .int _ _) rfl)) _ (.inl rfl)
 rw [pickN, if_pos (by omega)]; congr 1; congr 1; omega
theorem c_law15_pick (c n : Int) (c0 : -9223372036854775808 ≤ c) (c1 : c ≤ 9223372036854775807) (hn0 : 0 < n) (hn1 : n ≤ 9223372036854775807) : Cv Tryz.prog 9 #[.int .i64 c, .int .i64 n] [] (.int .i64 (pickN c n)) := by
 refine Ctr.intro Tryz.func9 rfl Tryz.ntmps9 (Nat.le_of_ble_eq_true rfl) fun S0 w0 => ?_
 refine T.seq (T.region ?_)
 refine rdx (rd_assign (v := .int _ _) rfl) ?_
 refine TO.nil (TQ.then_normal (T.seq (T.seq (T.region ?_))))
 refine rdx (rd_move (v := .int _ _) rfl) ?_
 refine rdx (rd_lss rfl rfl) ?_
 refine TO.nil (TQ.then_normal ?_)
 refine T.cond_ft rfl (fun h1 => ?_) (fun h1 => ?_)
 ·try simp only [nrm] at h1
  refine T.skip (TQ.then_normal (T.seq (T.region ?_)))
  refine rdx (rd_move (v := .int _ _) rfl) ?_
  refine rdx (rd_move (v := .int _ _) rfl) ?_
  refine rdx (rd_rem rfl rfl (by omega) (Int.tmod_eq_emod_of_nonneg (by omega))) ?_
  refine rdx (rd_assign (v := .int _ _) rfl) ?_
  refine TO.nil (TQ.then_normal (T.ret ?_))
  refine TQ.value ?_ (res1 Tryz.results9 (Res.tmp (v := .int _ _) rfl)) _ (.inl rfl)
  rw [pickN, if_neg (by omega)]
 try simp only [nrm] at h1
 refine T.region ?_
 refine rdx (rd_move (v := .int _ _) rfl) ?_
 refine rdx (rd_add rfl rfl (w64 (by omega) (by omega))) ?_
 refine rdx (rd_neg rfl (w64 (by omega) (by omega))) ?_
 refine rdx (rd_assign (v := .int _ _) rfl) ?_
 refine TO.nil (TQ.then_normal (T.seq (T.region ?_)))
 refine rdx (rd_move (v := .int _ _) rfl) ?_
 refine rdx (rd_move (v := .int _ _) rfl) ?_
 refine rdx (rd_rem rfl rfl (by omega) (Int.tmod_eq_emod_of_nonneg (by omega))) ?_
 refine rdx (rd_assign (v := .int _ _) rfl) ?_
 refine TO.nil (TQ.then_normal (T.ret ?_))
 refine TQ.value ?_ (res1 Tryz.results9 (Res.tmp (v := .int _ _) rfl)) _ (.inl rfl)
 rw [pickN, if_pos (by omega)]; congr 1; congr 1; omega
theorem c_ref15_narrowed (a b l r : Int) (ha : 0 ≤ a) (hab : a < b) (hb : b ≤ 1000000000000) (l0 : -9223372036854775808 ≤ l) (l1 : l ≤ 9223372036854775807) (r0 : -9223372036854775808 ≤ r) (r1 : r ≤ 9223372036854775807) : Cv Tryz.prog 41 #[.int .i64 a, .int .i64 b, .int .i64 l, .int .i64 r] [] (.tuple #[.int .i64 (narrowA a b l), .int .i64 (narrowB a b l r)]) := by
 refine Ctr.intro Tryz.func41 rfl Tryz.ntmps41 (Nat.le_of_ble_eq_true rfl) fun S0 w0 => ?_
 refine T.seq (T.region ?_)
 refine rdx (rd_assign (v := .int _ _) rfl) ?_
 refine rdx (rd_assign (v := .int _ _) rfl) ?_
 refine TO.nil (TQ.then_normal (T.seq (T.region ?_)))
 refine rdx (rd_move (v := .int _ _) rfl) ?_
 refine rdx (rd_move (v := .int _ _) rfl) ?_
 refine rdx (rd_move (v := .int _ _) rfl) ?_
 refine rdx (rd_move (v := .int _ _) rfl) ?_
 refine rdx (rd_sub rfl rfl (w64 (by omega) (by omega))) ?_
 refine TO.fn Tryz.enters40 (c_ref15_pick _ _ (by omega) (by omega) (by omega) (by omega)) rfl Reads0 ?_
 have e1 := pickN_lo (c := l) (n := b - a) (by omega)
 have e2 := pickN_hi (c := l) (n := b - a) (by omega)
 refine rdx (rd_add rfl rfl (w64 (by omega) (by omega))) ?_
 refine rdx (rd_assign (v := .int _ _) rfl) ?_
 refine TO.nil (TQ.then_normal (T.seq (T.region ?_)))
 refine rdx (rd_move (v := .int _ _) rfl) ?_
 refine rdx (rd_move (v := .int _ _) rfl) ?_
 refine rdx (rd_move (v := .int _ _) rfl) ?_
 refine rdx (rd_move (v := .int _ _) rfl) ?_
 refine rdx (rd_move (v := .int _ _) rfl) ?_
 refine rdx (rd_sub rfl rfl (w64 (by omega) (by omega))) ?_
 refine TO.fn Tryz.enters40 (c_ref15_pick _ _ (by omega) (by omega) (by omega) (by omega)) rfl Reads0 ?_
 have e3 := pickN_lo (c := r) (n := b - (a + pickN l (b - a))) (by omega)
 have e4 := pickN_hi (c := r) (n := b - (a + pickN l (b - a))) (by omega)
 refine rdx (rd_sub rfl rfl (w64 (by omega) (by omega))) ?_
 refine rdx (rd_assign (v := .int _ _) rfl) ?_
 refine rdx (rd_assign (v := .int _ _) rfl) ?_
 refine TO.nil (TQ.then_normal (T.ret ?_))
 refine TQ.value ?_ (res2 Tryz.results41 (Res.tmp (v := .int _ _) rfl) (Res.tmp (v := .int _ _) rfl)) _ (.inl rfl)
 rfl
end Go.Proofs
end
section
set_option linter.unusedVariables false
set_option linter.unusedSimpArgs false
set_option maxRecDepth 100000
set_option maxHeartbeats 800000
namespace Go.Proofs
open Go.TL
attribute [local irreducible] Go.TL.T Go.TL.TO Go.TL.TQ
theorem c_ref15_SignWish (k : Bytes) (w : Wish) (hk : k.length ≤ 1000000000) : Cv Tryz.prog 21 #[.string (str k), wishV w] [] (.tuple #[wishV (signW k w).1, .int .i64 (signW k w).2]) := by
 refine Ctr.intro Tryz.func21 rfl Tryz.ntmps21 (Nat.le_of_ble_eq_true rfl) fun S0 w0 => ?_
 refine T.seq (T.region ?_)
 refine TO.box (v := .agg #[.int _ _, .int _ _, .int _ _, .int _ _, .int _ _, .int _ _, .int _ _, .int _ _, .string _]) rfl (fun b1 => ?_)
 refine TO.alloc Tryz.zero30 (fun b2 => ?_)
 refine rdx (rd_assign (v := .int _ _) rfl) ?_
 refine TO.nil (TQ.then_normal (T.seq (T.seq (T.region ?_))))
 refine rdx (rd_move (v := .string _) rfl) ?_
 refine rdx (rd_lens' Tryz.under9 rfl) ?_
 refine rdx (rd_neq rfl rfl) ?_
 refine rdx (rd_move (v := .bool _) rfl) ?_
 refine TO.decide (s := 9) rfl (fun h3 => ?_) (fun h3 => ?_)
 ·try simp only [nrm] at h3
  refine TO.guard_false (s := 9) (b' := true) rfl rfl nofun ?_
  refine TO.guard_false (s := 9) (b' := true) rfl rfl nofun ?_
  refine TO.guard_false (s := 9) (b' := true) rfl rfl nofun ?_
  refine rdx (rd_pick_true (v := .bool _) rfl rfl) ?_
  refine TO.nil (TQ.then_normal ?_)
  refine T.cond_true rfl ?_
  refine T.seq (T.region ?_)
  refine rdx (rd_build (cs := [.int _ _, .int _ _, .int _ _, .int _ _, .int _ _, .int _ _, .int _ _, .int _ _, .string _]) Tryz.places30 Tryz.zero30 rfl rfl) ?_
  refine TO.store0 (cells' := #[.int _ _, .int _ _, .int _ _, .int _ _, .int _ _, .int _ _, .int _ _, .int _ _, .string _]) Tryz.size30 rfl (v := .agg #[.int _ _, .int _ _, .int _ _, .int _ _, .int _ _, .int _ _, .int _ _, .int _ _, .string _]) rfl rfl rfl (Nat.le_of_ble_eq_true rfl) rfl ?_
  refine rdx (rd_assign (v := .int _ _) rfl) ?_
  refine TO.nil (TQ.then_normal (T.ret (TQ.then_ret ?_)))
  refine TQ.value ?_ (res2 Tryz.results21 (Res.cells (cs := #[.int _ _, .int _ _, .int _ _, .int _ _, .int _ _, .int _ _, .int _ _, .int _ _, .string _]) Tryz.agg30 rfl (Has.own 0 rfl) rfl rfl) (Res.tmp (v := .int _ _) rfl)) _ (.inl rfl)
  rw [signW, if_neg (by rintro ⟨e1, e2⟩; first | omega | simp_all)]; rfl
 try simp only [nrm] at h3
 refine TO.guard_true (s := 9) rfl rfl ?_
 refine rdx (rd_load_agg (cs := #[.int _ _, .int _ _, .int _ _, .int _ _, .int _ _, .int _ _, .int _ _, .int _ _, .string _]) Tryz.agg30 rfl (Has.own 1 rfl) rfl rfl) ?_
 refine TO.guard_true (s := 9) rfl rfl ?_
 refine TO.fn Tryz.enters55 (c_ref15_wish _) rfl Reads0 ?_
 refine TO.guard_true (s := 9) rfl rfl ?_
 refine rdx (rd_not rfl) ?_
 refine rdx (rd_pick_false (v := .bool _) rfl rfl) ?_
 refine TO.nil (TQ.then_normal ?_)
 refine T.cond rfl (fun h4 => ?_) (fun h4 => ?_)
 ·try simp only [nrm] at h4
  refine T.seq (T.region ?_)
  refine rdx (rd_build (cs := [.int _ _, .int _ _, .int _ _, .int _ _, .int _ _, .int _ _, .int _ _, .int _ _, .string _]) Tryz.places30 Tryz.zero30 rfl rfl) ?_
  refine TO.store0 (cells' := #[.int _ _, .int _ _, .int _ _, .int _ _, .int _ _, .int _ _, .int _ _, .int _ _, .string _]) Tryz.size30 rfl (v := .agg #[.int _ _, .int _ _, .int _ _, .int _ _, .int _ _, .int _ _, .int _ _, .int _ _, .string _]) rfl rfl rfl (Nat.le_of_ble_eq_true rfl) rfl ?_
  refine rdx (rd_assign (v := .int _ _) rfl) ?_
  refine TO.nil (TQ.then_normal (T.ret (TQ.then_ret ?_)))
  refine TQ.value ?_ (res2 Tryz.results21 (Res.cells (cs := #[.int _ _, .int _ _, .int _ _, .int _ _, .int _ _, .int _ _, .int _ _, .int _ _, .string _]) Tryz.agg30 rfl (Has.own 0 rfl) rfl rfl) (Res.tmp (v := .int _ _) rfl)) _ (.inl rfl)
  rw [signW, if_neg (by rintro ⟨e1, e2⟩; first | omega | simp_all)]; rfl
 try simp only [nrm] at h4
 refine T.skip (TQ.then_normal (T.seq (T.region ?_)))
 refine rdx (rd_move (v := .string _) rfl) ?_
 refine rdx (rd_load_agg (cs := #[.int _ _, .int _ _, .int _ _, .int _ _, .int _ _, .int _ _, .int _ _, .int _ _, .string _]) Tryz.agg30 rfl (Has.own 1 rfl) rfl rfl) ?_
 refine TO.fn Tryz.enters35 (c_ref15_WishContent _) rfl Reads0 ?_
 refine TO.fn Tryz.enters58 (c_ref15_Seal _ _ (by first | omega | exact wishText_le _ | exact proxyText_le _ | exact puts3_le _ _ _ | (simp only [List.length_append, List.length_cons, List.length_nil, sha_len, leafOf_len, nodeOf_len, sealOf_len, List.length_take, List.length_drop]; omega) | (rw [keyB_len]; omega)) (by first | omega | exact wishText_le _ | exact proxyText_le _ | exact puts3_le _ _ _ | (simp only [List.length_append, List.length_cons, List.length_nil, sha_len, leafOf_len, nodeOf_len, sealOf_len, List.length_take, List.length_drop]; omega) | (rw [keyB_len]; omega))) rfl Reads0 ?_
 refine rdx (rd_fieldAddr Tryz.field30_6 rfl) ?_
 refine TO.front1 ?_
 refine TO.store0 (cells' := #[.int _ _, .int _ _, .int _ _, .int _ _, .int _ _, .int _ _, .int _ _, .int _ _, .string _]) Tryz.size9 rfl (v := .string _) rfl rfl rfl (Nat.le_of_ble_eq_true rfl) rfl ?_
 refine TO.nil (TQ.then_normal (T.seq (T.region ?_)))
 refine rdx (rd_load_agg (cs := #[.int _ _, .int _ _, .int _ _, .int _ _, .int _ _, .int _ _, .int _ _, .int _ _, .string _]) Tryz.agg30 rfl (Has.own 0 rfl) rfl rfl) ?_
 refine TO.front1 ?_
 refine TO.store0 (cells' := #[.int _ _, .int _ _, .int _ _, .int _ _, .int _ _, .int _ _, .int _ _, .int _ _, .string _]) Tryz.size30 rfl (v := .agg #[.int _ _, .int _ _, .int _ _, .int _ _, .int _ _, .int _ _, .int _ _, .int _ _, .string _]) rfl rfl rfl (Nat.le_of_ble_eq_true rfl) rfl ?_
 refine rdx (rd_assign (v := .int _ _) rfl) ?_
 refine TO.nil (TQ.then_normal (T.ret ?_))
 refine TQ.value ?_ (res2 Tryz.results21 (Res.cells (cs := #[.int _ _, .int _ _, .int _ _, .int _ _, .int _ _, .int _ _, .int _ _, .int _ _, .string _]) Tryz.agg30 rfl (Has.own 0 rfl) rfl rfl) (Res.tmp (v := .int _ _) rfl)) _ (.inl rfl)
 rw [signW, if_pos ⟨by omega, by simp_all⟩]; rfl
theorem c_ref15_SignProxy (k : Bytes) (w : Proxy) (hk : k.length ≤ 1000000000) : Cv Tryz.prog 23 #[.string (str k), proxyV w] [] (.tuple #[proxyV (signP k w).1, .int .i64 (signP k w).2]) := by
 refine Ctr.intro Tryz.func23 rfl Tryz.ntmps23 (Nat.le_of_ble_eq_true rfl) fun S0 w0 => ?_
 refine T.seq (T.region ?_)
 refine TO.box (v := .agg #[.int _ _, .int _ _, .int _ _, .int _ _, .int _ _, .int _ _, .string _]) rfl (fun b1 => ?_)
 refine TO.alloc Tryz.zero40 (fun b2 => ?_)
 refine rdx (rd_assign (v := .int _ _) rfl) ?_
 refine TO.nil (TQ.then_normal (T.seq (T.seq (T.region ?_))))
 refine rdx (rd_move (v := .string _) rfl) ?_
 refine rdx (rd_lens' Tryz.under9 rfl) ?_
 refine rdx (rd_neq rfl rfl) ?_
 refine rdx (rd_move (v := .bool _) rfl) ?_
 refine TO.decide (s := 9) rfl (fun h3 => ?_) (fun h3 => ?_)
 ·try simp only [nrm] at h3
  refine TO.guard_false (s := 9) (b' := true) rfl rfl nofun ?_
  refine TO.guard_false (s := 9) (b' := true) rfl rfl nofun ?_
  refine TO.guard_false (s := 9) (b' := true) rfl rfl nofun ?_
  refine rdx (rd_pick_true (v := .bool _) rfl rfl) ?_
  refine TO.nil (TQ.then_normal ?_)
  refine T.cond_true rfl ?_
  refine T.seq (T.region ?_)
  refine rdx (rd_build (cs := [.int _ _, .int _ _, .int _ _, .int _ _, .int _ _, .int _ _, .string _]) Tryz.places40 Tryz.zero40 rfl rfl) ?_
  refine TO.store0 (cells' := #[.int _ _, .int _ _, .int _ _, .int _ _, .int _ _, .int _ _, .string _]) Tryz.size40 rfl (v := .agg #[.int _ _, .int _ _, .int _ _, .int _ _, .int _ _, .int _ _, .string _]) rfl rfl rfl (Nat.le_of_ble_eq_true rfl) rfl ?_
  refine rdx (rd_assign (v := .int _ _) rfl) ?_
  refine TO.nil (TQ.then_normal (T.ret (TQ.then_ret ?_)))
  refine TQ.value ?_ (res2 Tryz.results23 (Res.cells (cs := #[.int _ _, .int _ _, .int _ _, .int _ _, .int _ _, .int _ _, .string _]) Tryz.agg40 rfl (Has.own 0 rfl) rfl rfl) (Res.tmp (v := .int _ _) rfl)) _ (.inl rfl)
  rw [signP, if_neg (by rintro ⟨e1, e2⟩; first | omega | simp_all)]; rfl
 try simp only [nrm] at h3
 refine TO.guard_true (s := 9) rfl rfl ?_
 refine rdx (rd_load_agg (cs := #[.int _ _, .int _ _, .int _ _, .int _ _, .int _ _, .int _ _, .string _]) Tryz.agg40 rfl (Has.own 1 rfl) rfl rfl) ?_
 refine TO.guard_true (s := 9) rfl rfl ?_
 refine TO.fn Tryz.enters56 (c_ref15_proxy _) rfl Reads0 ?_
 refine TO.guard_true (s := 9) rfl rfl ?_
 refine rdx (rd_not rfl) ?_
 refine rdx (rd_pick_false (v := .bool _) rfl rfl) ?_
 refine TO.nil (TQ.then_normal ?_)
 refine T.cond rfl (fun h4 => ?_) (fun h4 => ?_)
 ·try simp only [nrm] at h4
  refine T.seq (T.region ?_)
  refine rdx (rd_build (cs := [.int _ _, .int _ _, .int _ _, .int _ _, .int _ _, .int _ _, .string _]) Tryz.places40 Tryz.zero40 rfl rfl) ?_
  refine TO.store0 (cells' := #[.int _ _, .int _ _, .int _ _, .int _ _, .int _ _, .int _ _, .string _]) Tryz.size40 rfl (v := .agg #[.int _ _, .int _ _, .int _ _, .int _ _, .int _ _, .int _ _, .string _]) rfl rfl rfl (Nat.le_of_ble_eq_true rfl) rfl ?_
  refine rdx (rd_assign (v := .int _ _) rfl) ?_
  refine TO.nil (TQ.then_normal (T.ret (TQ.then_ret ?_)))
  refine TQ.value ?_ (res2 Tryz.results23 (Res.cells (cs := #[.int _ _, .int _ _, .int _ _, .int _ _, .int _ _, .int _ _, .string _]) Tryz.agg40 rfl (Has.own 0 rfl) rfl rfl) (Res.tmp (v := .int _ _) rfl)) _ (.inl rfl)
  rw [signP, if_neg (by rintro ⟨e1, e2⟩; first | omega | simp_all)]; rfl
 try simp only [nrm] at h4
 refine T.skip (TQ.then_normal (T.seq (T.region ?_)))
 refine rdx (rd_move (v := .string _) rfl) ?_
 refine rdx (rd_load_agg (cs := #[.int _ _, .int _ _, .int _ _, .int _ _, .int _ _, .int _ _, .string _]) Tryz.agg40 rfl (Has.own 1 rfl) rfl rfl) ?_
 refine TO.fn Tryz.enters36 (c_ref15_ProxyContent _) rfl Reads0 ?_
 refine TO.fn Tryz.enters58 (c_ref15_Seal _ _ (by first | omega | exact wishText_le _ | exact proxyText_le _ | exact puts3_le _ _ _ | (simp only [List.length_append, List.length_cons, List.length_nil, sha_len, leafOf_len, nodeOf_len, sealOf_len, List.length_take, List.length_drop]; omega) | (rw [keyB_len]; omega)) (by first | omega | exact wishText_le _ | exact proxyText_le _ | exact puts3_le _ _ _ | (simp only [List.length_append, List.length_cons, List.length_nil, sha_len, leafOf_len, nodeOf_len, sealOf_len, List.length_take, List.length_drop]; omega) | (rw [keyB_len]; omega))) rfl Reads0 ?_
 refine rdx (rd_fieldAddr Tryz.field40_4 rfl) ?_
 refine TO.front1 ?_
 refine TO.store0 (cells' := #[.int _ _, .int _ _, .int _ _, .int _ _, .int _ _, .int _ _, .string _]) Tryz.size9 rfl (v := .string _) rfl rfl rfl (Nat.le_of_ble_eq_true rfl) rfl ?_
 refine TO.nil (TQ.then_normal (T.seq (T.region ?_)))
 refine rdx (rd_load_agg (cs := #[.int _ _, .int _ _, .int _ _, .int _ _, .int _ _, .int _ _, .string _]) Tryz.agg40 rfl (Has.own 0 rfl) rfl rfl) ?_
 refine TO.front1 ?_
 refine TO.store0 (cells' := #[.int _ _, .int _ _, .int _ _, .int _ _, .int _ _, .int _ _, .string _]) Tryz.size40 rfl (v := .agg #[.int _ _, .int _ _, .int _ _, .int _ _, .int _ _, .int _ _, .string _]) rfl rfl rfl (Nat.le_of_ble_eq_true rfl) rfl ?_
 refine rdx (rd_assign (v := .int _ _) rfl) ?_
 refine TO.nil (TQ.then_normal (T.ret ?_))
 refine TQ.value ?_ (res2 Tryz.results23 (Res.cells (cs := #[.int _ _, .int _ _, .int _ _, .int _ _, .int _ _, .int _ _, .string _]) Tryz.agg40 rfl (Has.own 0 rfl) rfl rfl) (Res.tmp (v := .int _ _) rfl)) _ (.inl rfl)
 rw [signP, if_pos ⟨by omega, by simp_all⟩]; rfl
end Go.Proofs
end
section
set_option linter.unusedVariables false
set_option linter.unusedSimpArgs false
set_option maxRecDepth 100000
set_option maxHeartbeats 800000
namespace Go.Proofs
open Go.TL
attribute [local irreducible] Go.TL.T Go.TL.TO Go.TL.TQ
theorem c_ref15_Key (h : Int) : Cv Tryz.prog 19 #[.int .i64 h] [] (.string (str (keyB h))) := by
 refine Ctr.intro Tryz.func19 rfl Tryz.ntmps19 (Nat.le_of_ble_eq_true rfl) fun S0 w0 => ?_
 refine T.seq (T.region ?_)
 refine rdx (rd_assign (v := .string _) rfl) ?_
 refine TO.nil (TQ.then_normal (T.seq (T.region ?_)))
 refine TO.make (k := 32) Tryz.trow5 Tryz.zero5 Tryz.under62 rfl rfl rfl (by decide) (by decide) (fun b1 => ?_)
 refine rdx (rd_assign (v := .slice _ _ _) rfl) ?_
 refine TO.nil (TQ.then_normal (T.seq (T.seq (T.region ?_))))
 refine rdx (rd_assign (v := .int _ _) rfl) ?_
 refine TO.nil (TQ.then_normal (T.block ?_))
 refine T.loop1 [0, 3] (fun (k : Nat) => [(4, .int .i64 (k : Nat))]) (fun (k : Nat) => [own b1 (List.replicate k (Value.int .u8 ((UInt8.ofNat (h % 256).toNat).toNat : Int)) ++ List.replicate (32 - k) (Value.int .u8 0)).toArray 5]) (fun (k : Nat) => k ≤ 32) (fun (k : Nat) => 32 - k) (0) (Nat.zero_le _) (And.intro (rfl) (trivial)) (fun _ _ h => h) fun k g0 hx0 => ?_
 refine T.seq (T.seq (T.region ?_))
 refine rdx (rd_move (v := .int _ _) rfl) ?_
 refine rdx (rd_move (v := .slice _ _ _) rfl) ?_
 refine rdx (rd_lensl Tryz.under62 rfl) ?_
 refine rdx (rd_lss rfl rfl) ?_
 refine TO.nil (TQ.then_normal ?_)
 refine T.cond_ft rfl (fun h2 => ?_) (fun h2 => ?_)
 ·try simp only [nrm] at h2
  refine T.exit (TQ.then_exit (TQ.then_exit (TQ.block_out (TQ.then_normal (T.seq (T.region ?_))))))
  refine rdx (rd_move (v := .slice _ _ _) rfl) ?_
  refine TO.torow0 1 32 (by simp; omega) (by decide) ?_
  refine TO.row_eq (cs' := bytesC (keyB h)) rfl (by (obtain rfl : k = 32 := by omega); rfl) ?_
  refine rdx (rd_row_str Tryz.under62 Tryz.under5 Tryz.under9 rfl (Has.own 0 rfl)) ?_
  refine rdx (rd_assign (v := .string _) rfl) ?_
  refine TO.nil (TQ.then_normal (T.ret ?_))
  refine TQ.value ?_ (res1 Tryz.results19 (Res.tmp (v := .string _) rfl)) _ (.inl rfl)
  rfl
 try simp only [nrm] at h2
 refine T.skip (TQ.then_normal (T.seq (T.block (T.region ?_))))
 refine rdx (rd_move (v := .slice _ _ _) rfl) ?_
 refine rdx (rd_move (v := .int _ _) rfl) ?_
 refine rdx (rd_move (v := .int _ _) rfl) ?_
 refine rdx (rd_convert Tryz.isome3 Tryz.under5 rfl (show IntKind.u8.wrap h = ((UInt8.ofNat (h % 256).toNat).toNat : Int) from by rw [wrap_u8, UInt8.toNat_ofNat']; omega)) ?_
 refine rdx (rd_indexAddr (k := k) Tryz.under62 Tryz.size5 rfl rfl rfl (by omega)) ?_
 refine TO.store0 (cells' := (List.replicate (k + 1) (Value.int .u8 ((UInt8.ofNat (h % 256).toNat).toNat : Int)) ++ List.replicate (32 - (k + 1)) (Value.int .u8 0)).toArray) (v := .int .u8 _) Tryz.size5 rfl rfl rfl (by rw [Nat.zero_add, Nat.mul_one]; exact over_rep (by omega)) (by simp; omega) rfl ?_
 refine TO.nil (TQ.block_normal (TQ.then_normal (T.region ?_)))
 refine rdx (rd_move (v := .int _ _) rfl) ?_
 refine rdx (rd_add rfl rfl (w64 (by omega) (by omega))) ?_
 refine rdx (rd_assign (v := .int _ _) rfl) ?_
 refine TO.nil ?_
 refine TQ.againk (k + 1) ?_ ?_ (And.intro (rfl) (trivial)) (And.intro (rfl) (And.intro (rfl) (trivial))) (fun _ _ h => h)
 ·first | omega | (dsimp only; omega)
 ·first | omega | (dsimp only; omega)
theorem c_ref15_Keys  : Ctr Tryz.prog 11 #[] [] [] (γ := Option Addr × Nat) (fun x => True) (fun x => .slice x.1 10 x.2) (fun x => [row 9 1 x.1 10 x.2 ((keysN 10).flatMap eStr)]) := by
 refine Ctr.intro Tryz.func11 rfl Tryz.ntmps11 (Nat.le_of_ble_eq_true rfl) fun S0 w0 => ?_
 refine T.seq (T.region ?_)
 refine rdx (rd_assign (v := .slice none 0 0) rfl) ?_
 refine TO.newrow 9 1 ?_
 refine TO.nil (TQ.then_normal (T.seq (T.region ?_)))
 refine rdx (rd_assign (v := .slice none 0 0) rfl) ?_
 refine TO.newrow 9 1 ?_
 refine TO.nil (TQ.then_normal (T.seq (T.seq (T.region ?_))))
 refine rdx (rd_assign (v := .int _ _) rfl) ?_
 refine TO.nil (TQ.then_normal (T.block ?_))
 refine T.loop3 [] (fun (A1 : Option Addr) (cap1 : Nat) (k : Nat) => [(1, .slice A1 k cap1), (2, .int .i64 (k : Nat))]) (fun (A1 : Option Addr) (cap1 : Nat) (k : Nat) => [row 9 1 A1 k cap1 ((keysN k).flatMap eStr)]) (fun (A1 : Option Addr) (cap1 : Nat) (k : Nat) => k ≤ 10) (fun (A1 : Option Addr) (cap1 : Nat) (k : Nat) => 10 - k) (none) (0) (0) (Nat.zero_le _) (And.intro (rfl) (And.intro (rfl) (trivial))) (fun _ _ h => h) fun A1 cap1 k g0 hx0 => ?_
 refine T.seq (T.seq (T.region ?_))
 refine rdx (rd_move (v := .int _ _) rfl) ?_
 refine rdx (rd_lss rfl rfl) ?_
 refine TO.nil (TQ.then_normal ?_)
 refine T.cond_ft rfl (fun h3 => ?_) (fun h3 => ?_)
 ·try simp only [nrm] at h3
  refine T.exit (TQ.then_exit (TQ.then_exit (TQ.block_out (TQ.then_normal (T.seq (T.region ?_))))))
  refine rdx (rd_move (v := .slice _ _ _) rfl) ?_
  refine rdx (rd_assign (v := .slice _ _ _) rfl) ?_
  refine TO.nil (TQ.then_normal (T.ret ?_))
  refine TQ.done ((A1, cap1)) (trivial) ?_ (fun _ _ => seps_row 0 rfl (by omega) (by rw [show k = 10 by omega])) (res1 Tryz.results11 (Res.tmp (v := .slice _ _ _) rfl)) _ (.inl rfl)
  rw [show k = 10 by omega]
 try simp only [nrm] at h3
 refine T.skip (TQ.then_normal (T.seq (T.block (T.region ?_))))
 refine rdx (rd_move (v := .slice _ _ _) rfl) ?_
 refine rdx (rd_move (v := .int _ _) rfl) ?_
 refine TO.fn Tryz.enters19 (c_ref15_Key _) rfl Reads0 ?_
 refine TO.buildS (cs := [.string _]) Tryz.under32 Tryz.size9 Tryz.zero9 (Nat.le_of_ble_eq_true rfl) rfl (fun b4 => ?_)
 refine TO.front1 ?_
 refine TO.app Tryz.trow9 Tryz.under32 (.inl ⟨_, Tryz.under32⟩) rfl rfl (Src.own1 1 rfl rfl) rfl rfl (by omega) (fun A5 c6 hc7 => ?_)
 refine TO.row_eq (cs' := (keysN (k + 1)).flatMap eStr) rfl (by rw [keysN_succ, List.flatMap_append]; rfl) ?_
 refine rdx (rd_assign (v := .slice _ _ _) rfl) ?_
 refine TO.nil (TQ.block_normal (TQ.then_normal (T.region ?_)))
 refine rdx (rd_move (v := .int _ _) rfl) ?_
 refine rdx (rd_add rfl rfl (w64 (by omega) (by omega))) ?_
 refine rdx (rd_assign (v := .int _ _) rfl) ?_
 refine TO.nil ?_
 refine TQ.againk (A5, c6, k + 1) ?_ ?_ (And.intro (rfl) (And.intro (rfl) (trivial))) (trivial) (fun _ _ h => h.sel (js := [0, 2]) (by decide))
 ·first | omega | (dsimp only; omega)
 ·first | omega | (dsimp only; omega)
end Go.Proofs
end
section
set_option linter.unusedVariables false
set_option linter.unusedSimpArgs false
set_option maxRecDepth 100000
set_option maxHeartbeats 800000
namespace Go.Proofs
open Go.TL
attribute [local irreducible] Go.TL.T Go.TL.TO Go.TL.TQ
theorem Tryz.enters50 : Enters Tryz.prog 50 := fun args w => by kernel_rfl
theorem Tryz.enters59 : Enters Tryz.prog 59 := fun args w => by kernel_rfl
theorem Tryz.enters61 : Enters Tryz.prog 61 := fun args w => by kernel_rfl
end Go.Proofs
end
section
set_option linter.unusedVariables false
set_option linter.unusedSimpArgs false
set_option maxRecDepth 100000
set_option maxHeartbeats 800000
namespace Go.Proofs
open Go.TL
attribute [local irreducible] Go.TL.T Go.TL.TO Go.TL.TQ
theorem Tryz.field102_0 : TyField Tryz.prog 102 0 0 := fun a w => by kernel_rfl
theorem Tryz.zero102 : TyZero Tryz.prog 102 (.agg #[.pointer none, .slice none 0 0]) := fun w => by kernel_rfl
theorem Tryz.enters52 : Enters Tryz.prog 52 := fun args w => by kernel_rfl
theorem Tryz.enters54 : Enters Tryz.prog 54 := fun args w => by kernel_rfl
theorem Tryz.enters64 : Enters Tryz.prog 64 := fun args w => by kernel_rfl
theorem Tryz.enters66 : Enters Tryz.prog 66 := fun args w => by kernel_rfl
theorem Tryz.enters87 : Enters Tryz.prog 87 := fun args w => by kernel_rfl
theorem Tryz.enters88 : Enters Tryz.prog 88 := fun args w => by kernel_rfl
end Go.Proofs
end
section
set_option linter.unusedVariables false
set_option linter.unusedSimpArgs false
set_option maxRecDepth 100000
set_option maxHeartbeats 800000
namespace Go.Proofs
open Go.TL
attribute [local irreducible] Go.TL.T Go.TL.TO Go.TL.TQ
theorem Tryz.enters99 : Enters Tryz.prog 99 := fun args w => by kernel_rfl
theorem Tryz.enters105 : Enters Tryz.prog 105 := fun args w => by kernel_rfl
theorem Tryz.enters106 : Enters Tryz.prog 106 := fun args w => by kernel_rfl
theorem Tryz.enters107 : Enters Tryz.prog 107 := fun args w => by kernel_rfl
end Go.Proofs
end
section
set_option linter.unusedVariables false
set_option linter.unusedSimpArgs false
set_option maxRecDepth 100000
set_option maxHeartbeats 800000
namespace Go.Proofs
open Go.TL
attribute [local irreducible] Go.TL.T Go.TL.TO Go.TL.TQ
theorem Tryz.field100_1 : TyField Tryz.prog 100 1 1 := fun a w => by kernel_rfl
theorem Tryz.lies100_100 : liesAt Tryz.prog Tryz.prog.depth 100 (2 / Tryz.prog.cellsOf 100) 0 100 1 = true := by kernel_rfl
theorem Tryz.lies102_100 : liesAt Tryz.prog Tryz.prog.depth 102 (2 / Tryz.prog.cellsOf 102) 0 100 1 = true := by kernel_rfl
theorem Tryz.one62 : TyOne Tryz.prog 62 := ⟨fun w => by kernel_rfl, fun w => by kernel_rfl⟩
theorem Tryz.zero100 : TyZero Tryz.prog 100 (.agg #[.pointer none, .slice none 0 0]) := fun w => by kernel_rfl
theorem Tryz.enters65 : Enters Tryz.prog 65 := fun args w => by kernel_rfl
theorem Tryz.enters93 : Enters Tryz.prog 93 := fun args w => by kernel_rfl
theorem Tryz.enters112 : Enters Tryz.prog 112 := fun args w => by kernel_rfl
theorem Tryz.enters116 : Enters Tryz.prog 116 := fun args w => by kernel_rfl
end Go.Proofs
end
section
set_option linter.unusedVariables false
set_option linter.unusedSimpArgs false
set_option maxRecDepth 100000
set_option maxHeartbeats 800000
namespace Go.Proofs
open Go.TL
attribute [local irreducible] Go.TL.T Go.TL.TO Go.TL.TQ
theorem Tryz.mkz118 : MkZ Tryz.prog 118 62 := ⟨#[3], fun v w => by kernel_rfl⟩
theorem Tryz.one1_5 : (Tryz.prog.info? 5).map (·.size) = some 1 := by kernel_rfl
theorem Tryz.size62 : ∀ w, (sizeOf 62).run Tryz.prog w = .ok 1 w := fun w => by kernel_rfl
end Go.Proofs
end
section
set_option linter.unusedVariables false
set_option linter.unusedSimpArgs false
set_option maxRecDepth 100000
set_option maxHeartbeats 800000
namespace Go.Proofs
open Go.TL
attribute [local irreducible] Go.TL.T Go.TL.TO Go.TL.TQ
theorem Tryz.agg155 : TyAgg Tryz.prog 155 8 := ⟨fun w => by kernel_rfl, fun w => by kernel_rfl⟩
theorem Tryz.under155 : Tryz.prog.underlying 155 = some (.array 8 137) := by kernel_rfl
theorem Tryz.under165 : Tryz.prog.underlying 165 = some (.array 32 5) := by kernel_rfl
theorem Tryz.zero165 : TyZero Tryz.prog 165 (.agg #[.int .u8 0, .int .u8 0, .int .u8 0, .int .u8 0, .int .u8 0, .int .u8 0, .int .u8 0, .int .u8 0, .int .u8 0, .int .u8 0, .int .u8 0, .int .u8 0, .int .u8 0, .int .u8 0, .int .u8 0, .int .u8 0, .int .u8 0, .int .u8 0, .int .u8 0, .int .u8 0, .int .u8 0, .int .u8 0, .int .u8 0, .int .u8 0, .int .u8 0, .int .u8 0, .int .u8 0, .int .u8 0, .int .u8 0, .int .u8 0, .int .u8 0, .int .u8 0]) := fun w => by kernel_rfl
end Go.Proofs
end
section
set_option linter.unusedVariables false
set_option linter.unusedSimpArgs false
set_option maxRecDepth 100000
set_option maxHeartbeats 800000
namespace Go.Proofs
open Go.TL
attribute [local irreducible] Go.TL.T Go.TL.TO Go.TL.TQ
theorem Tryz.agg162 : TyAgg Tryz.prog 162 64 := ⟨fun w => by kernel_rfl, fun w => by kernel_rfl⟩
theorem Tryz.size155 : ∀ w, (sizeOf 155).run Tryz.prog w = .ok 8 w := fun w => by kernel_rfl
theorem Tryz.size162 : ∀ w, (sizeOf 162).run Tryz.prog w = .ok 64 w := fun w => by kernel_rfl
theorem Tryz.under162 : Tryz.prog.underlying 162 = some (.array 64 137) := by kernel_rfl
theorem Tryz.zero155 : TyZero Tryz.prog 155 (.agg #[.int .u32 0, .int .u32 0, .int .u32 0, .int .u32 0, .int .u32 0, .int .u32 0, .int .u32 0, .int .u32 0]) := fun w => by kernel_rfl
theorem Tryz.zero162 : TyZero Tryz.prog 162 (.agg #[.int .u32 0, .int .u32 0, .int .u32 0, .int .u32 0, .int .u32 0, .int .u32 0, .int .u32 0, .int .u32 0, .int .u32 0, .int .u32 0, .int .u32 0, .int .u32 0, .int .u32 0, .int .u32 0, .int .u32 0, .int .u32 0, .int .u32 0, .int .u32 0, .int .u32 0, .int .u32 0, .int .u32 0, .int .u32 0, .int .u32 0, .int .u32 0, .int .u32 0, .int .u32 0, .int .u32 0, .int .u32 0, .int .u32 0, .int .u32 0, .int .u32 0, .int .u32 0, .int .u32 0, .int .u32 0, .int .u32 0, .int .u32 0, .int .u32 0, .int .u32 0, .int .u32 0, .int .u32 0, .int .u32 0, .int .u32 0, .int .u32 0, .int .u32 0, .int .u32 0, .int .u32 0, .int .u32 0, .int .u32 0, .int .u32 0, .int .u32 0, .int .u32 0, .int .u32 0, .int .u32 0, .int .u32 0, .int .u32 0, .int .u32 0, .int .u32 0, .int .u32 0, .int .u32 0, .int .u32 0, .int .u32 0, .int .u32 0, .int .u32 0, .int .u32 0]) := fun w => by kernel_rfl
theorem Tryz.enters114 : Enters Tryz.prog 114 := fun args w => by kernel_rfl
theorem Tryz.enters115 : Enters Tryz.prog 115 := fun args w => by kernel_rfl
end Go.Proofs
end
section
set_option linter.unusedVariables false
set_option linter.unusedSimpArgs false
set_option maxRecDepth 100000
set_option maxHeartbeats 800000
namespace Go.Proofs
open Go.TL
attribute [local irreducible] Go.TL.T Go.TL.TO Go.TL.TQ
end Go.Proofs
end
section
set_option linter.unusedVariables false
set_option linter.unusedSimpArgs false
set_option maxRecDepth 100000
set_option maxHeartbeats 800000
namespace Go.Proofs
open Go.TL
attribute [local irreducible] Go.TL.T Go.TL.TO Go.TL.TQ
theorem Tryz.under124 : Tryz.prog.underlying 124 = some (.int .u64) := by kernel_rfl
theorem Tryz.enters117 : Enters Tryz.prog 117 := fun args w => by kernel_rfl
end Go.Proofs
end
section
set_option linter.unusedVariables false
set_option linter.unusedSimpArgs false
set_option maxRecDepth 100000
set_option maxHeartbeats 800000
namespace Go.Proofs
open Go.TL
attribute [local irreducible] Go.TL.T Go.TL.TO Go.TL.TQ
theorem c_rot32 (x : UInt32) (n : Int) (h0 : 0 < n) (h : n < 32) : Cv Tryz.prog 117 #[.int .u32 x.toNat, .int .i64 (0 - n)] [] (.int .u32 (rotr x n.toNat).toNat) := by
 obtain ⟨m, rfl⟩ : ∃ m : Nat, n = (m : Int) := ⟨n.toNat, by omega⟩
 refine Ctr.intro Tryz.func117 rfl Tryz.ntmps117 (Nat.le_of_ble_eq_true rfl) fun S0 w0 => ?_
 refine T.seq (T.region ?_)
 refine rdx (rd_assign (v := .int _ _) rfl) ?_
 refine TO.nil (TQ.then_normal (T.seq (T.region ?_)))
 refine rdx (rd_move (v := .int _ _) rfl) ?_
 refine rdx (rd_convert Tryz.isome3 Tryz.under124 rfl (wrap_negu (n := m) (by omega) (by omega))) ?_
 refine rdx (rd_and rfl rfl (and31 (by omega) (by omega))) ?_
 refine rdx (rd_assign (v := .int _ _) rfl) ?_
 refine TO.nil (TQ.then_normal (T.seq (T.region ?_)))
 refine rdx (rd_move (v := .int _ _) rfl) ?_
 refine rdx (rd_move (v := .int _ _) rfl) ?_
 refine rdx (rd_shl32 (k := (32 - m)) rfl rfl (rfl) (by omega)) ?_
 refine rdx (rd_move (v := .int _ _) rfl) ?_
 refine rdx (rd_move (v := .int _ _) rfl) ?_
 refine rdx (rd_sub rfl rfl (wu64 (by omega) (by omega))) ?_
 refine rdx (rd_shr32 (k := m) rfl rfl (by omega) (by omega)) ?_
 refine rdx (rd_or32 rfl rfl) ?_
 refine rdx (rd_assign (v := .int _ _) rfl) ?_
 refine TO.nil (TQ.then_normal (T.ret ?_))
 refine TQ.value ?_ (res1 Tryz.results117 (Res.tmp (v := .int _ _) rfl)) _ (.inl rfl)
 rw [Int.toNat_natCast, rotr, UInt32.or_comm]
theorem c_mixed (x : UInt32) (A : Option Addr) (cap n : Nat) (l : List Int) (hn : n = l.length) (hl : ∀ n ∈ l, 0 < n ∧ n < 32) (hlen : l.length ≤ 100) : Cv Tryz.prog 115 #[.int .u32 x.toNat, .slice A n cap] [slc eInt 1 A l] (.int .u32 (mixedOf x l).toNat) := by
 subst hn
 refine Ctr.intro Tryz.func115 rfl Tryz.ntmps115 (Nat.le_of_ble_eq_true rfl) fun S0 w0 => ?_
 refine T.seq (T.region ?_)
 refine rdx (rd_assign (v := .int _ _) rfl) ?_
 refine TO.nil (TQ.then_normal (T.seq (T.region ?_)))
 refine rdx (rd_assign (v := .int _ _) rfl) ?_
 refine TO.nil (TQ.then_normal (T.seq (T.seq (T.region ?_))))
 refine rdx (rd_move (v := .slice _ _ _) rfl) ?_
 refine rdx (rd_lensl Tryz.under110 rfl) ?_
 refine rdx (rd_move (v := .int _ _) rfl) ?_
 refine TO.nil (TQ.then_normal (T.block ?_))
 refine T.loop1 [0, 8, 9] (fun (k : Nat) => [(5, .int .u32 (mixedOf x (l.take k)).toNat), (10, .int .i64 (k : Nat))]) (fun (k : Nat) => []) (fun (k : Nat) => k ≤ l.length) (fun (k : Nat) => l.length - k) (0) (Nat.zero_le _) (And.intro (rfl) (And.intro (rfl) (trivial))) (fun _ _ h => h) fun k g0 hx0 => ?_
 refine T.seq (T.region ?_)
 refine rdx (rd_lss rfl rfl) ?_
 refine TO.nil (TQ.then_normal (T.seq ?_))
 refine T.cond_ft rfl (fun h1 => ?_) (fun h1 => ?_)
 ·try simp only [nrm] at h1
  refine T.exit (TQ.then_exit (TQ.then_exit (TQ.block_out (TQ.then_normal (T.seq (T.region ?_))))))
  refine rdx (rd_move (v := .int _ _) rfl) ?_
  refine rdx (rd_assign (v := .int _ _) rfl) ?_
  refine TO.nil (TQ.then_normal (T.ret ?_))
  refine TQ.value ?_ (res1 Tryz.results115 (Res.tmp (v := .int _ _) rfl)) _ (.inl rfl)
  rw [List.take_of_length_le (by omega)]
 try simp only [nrm] at h1
 refine T.skip (TQ.then_normal (T.seq (T.block (T.seq (T.region ?_)))))
 refine rdx (rd_ix Tryz.under110 Tryz.size3 rfl rfl (Has.arg 0 rfl) rfl (by omega) (by omega)) ?_
 refine rdx (rd_el (v := .int _ _) _ 0 Tryz.one3 rfl (Has.arg 0 rfl) rfl (by omega) (Nat.le_of_ble_eq_true rfl) rfl) ?_
 have hb := hl (l[k]'(by omega)) (List.getElem_mem _)
 refine rdx (rd_assign (v := .int _ _) rfl) ?_
 refine TO.nil (TQ.then_normal (T.region ?_))
 refine rdx (rd_move (v := .int _ _) rfl) ?_
 refine rdx (rd_move (v := .int _ _) rfl) ?_
 refine rdx (rd_move (v := .int _ _) rfl) ?_
 refine rdx (rd_neg rfl (w64 (by omega) (by omega))) ?_
 refine TO.fn Tryz.enters117 (c_rot32 x (l[k]'(by omega)) (by omega) (by omega)) rfl Reads0 ?_
 refine rdx (rd_xor32 (a := mixedOf x (l.take k)) (b := rotr x (l[k]'(by omega)).toNat) rfl rfl) ?_
 refine rdx (rd_assign (v := .int _ _) rfl) ?_
 refine TO.nil (TQ.block_normal (TQ.then_normal (T.region ?_)))
 refine rdx (rd_add rfl rfl (w64 (by omega) (by omega))) ?_
 refine rdx (rd_move (v := .int _ _) rfl) ?_
 refine TO.nil ?_
 refine TQ.againk (k + 1) ?_ ?_ (And.intro (congrArg (fun z : UInt32 => Value.int .u32 (z.toNat : Int)) (mixedOf_step (by omega))) (And.intro (rfl) (trivial))) (And.intro (rfl) (And.intro (rfl) (And.intro (rfl) (trivial)))) (fun _ _ h => h)
 ·first | omega | (dsimp only; omega)
 ·first | omega | (dsimp only; omega)
end Go.Proofs
end
section
set_option linter.unusedVariables false
set_option linter.unusedSimpArgs false
set_option maxRecDepth 100000
set_option maxHeartbeats 800000
namespace Go.Proofs
open Go.TL
attribute [local irreducible] Go.TL.T Go.TL.TO Go.TL.TQ
theorem c_schedule (A : Option Addr) (cap n : Nat) (b : List UInt8) (hn : n = b.length) (hb : b.length = 64) : Cv Tryz.prog 114 #[.slice A n cap] [slc eByte 1 A b] (.agg ((sched b).flatMap eW).toArray) := by
 subst hn
 refine Ctr.intro Tryz.func114 rfl Tryz.ntmps114 (Nat.le_of_ble_eq_true rfl) fun S0 w0 => ?_
 refine T.seq (T.region ?_)
 refine TO.alloc Tryz.zero162 (fun b1 => ?_)
 refine TO.nil (TQ.then_normal (T.seq (T.seq (T.region ?_))))
 refine rdx (rd_move (v := .int _ _) rfl) ?_
 refine TO.nil (TQ.then_normal (T.block ?_))
 refine T.loop1 [0, 2] (fun (k : Nat) => [(7, .int .i64 (k : Nat))]) (fun (k : Nat) => [own b1 ((w16 b k).flatMap eW ++ List.replicate (64 - k) (Value.int .u32 0)).toArray 162]) (fun (k : Nat) => k ≤ 16) (fun (k : Nat) => 16 - k) (0) (Nat.zero_le _) (And.intro (rfl) (trivial)) (fun _ _ h => h) fun k g0 hx0 => ?_
 refine T.seq (T.region ?_)
 refine rdx (rd_lss rfl rfl) ?_
 refine TO.nil (TQ.then_normal (T.seq ?_))
 refine T.cond rfl (fun h2 => ?_) (fun h2 => ?_)
 ·try simp only [nrm] at h2
  refine T.skip (TQ.then_normal (T.seq (T.block (T.seq (T.region ?_)))))
  refine rdx (rd_move (v := .int _ _) rfl) ?_
  refine rdx (rd_assign (v := .int _ _) rfl) ?_
  refine TO.nil (TQ.then_normal ?_)
  refine T.drawq Tryz.mixes 34 [(10, 0), (11, 1), (12, 2), (13, 3), (14, 4), (15, 5), (16, 6), (17, 7), (18, 8), (19, 9), (20, 10), (21, 11), (22, 12), (23, 13), (24, 14), (25, 15), (26, 16), (27, 17), (28, 18), (29, 19), (30, 20), (31, 21), (32, 22), (33, 23), (34, 24), (35, 25), (36, 26), (37, 27), (38, 28), (39, 29), (40, 30), (41, 31), (42, 32), (43, 33)] [0, 0, 0, 4, 14, 30, 62, 126, 0, 0, 512, 1536, 3840, 7936, 16128, 32512, 65534, 0, 0, 262144, 786432, 1966080, 4063232, 8257536, 16646144, 33554430, 0, 0, 134217728, 402653184, 1006632960, 2080374784, 4227858432, 8589934590, 17179869183, 34359738367] (by kernel_rfl) ?_
  refine DQ.rd rfl rfl (fun _ => rd_move (v := .int _ _) rfl) ?_
  refine DQ.rd rfl rfl (fun _ => rd_move (v := .slice _ _ _) rfl) ?_
  refine DQ.rd rfl rfl (fun _ => rd_move (v := .int _ _) rfl) ?_
  refine DQ.rd rfl rfl (fun _ => rd_mul rfl rfl (w64 (by omega) (by omega))) ?_
  refine DQ.rd rfl rfl (fun _ => rd_ix (k := (4 * k)) Tryz.under62 Tryz.size5 rfl rfl (Has.arg 0 rfl) (by omega) (by omega) (by omega)) ?_
  refine DQ.rd rfl rfl (fun _ => rd_el (v := .int _ _) (4 * k) 0 Tryz.one5 rfl (Has.arg 0 rfl) rfl (by omega) (Nat.le_of_ble_eq_true rfl) rfl) ?_
  refine DQ.rd rfl rfl (fun _ => rd_conv8_32 Tryz.isome5 Tryz.under137 rfl) ?_
  refine DQ.rd rfl rfl (fun _ => rd_shl32 (k := 24) rfl rfl (rfl) (by decide)) ?_
  refine DQ.rd rfl rfl (fun _ => rd_move (v := .slice _ _ _) rfl) ?_
  refine DQ.rd rfl rfl (fun _ => rd_move (v := .int _ _) rfl) ?_
  refine DQ.rd rfl rfl (fun _ => rd_mul rfl rfl (w64 (by omega) (by omega))) ?_
  refine DQ.rd rfl rfl (fun _ => rd_add rfl rfl (w64 (by omega) (by omega))) ?_
  refine DQ.rd rfl rfl (fun _ => rd_ix (k := (4 * k + 1)) Tryz.under62 Tryz.size5 rfl rfl (Has.arg 0 rfl) (by omega) (by omega) (by omega)) ?_
  refine DQ.rd rfl rfl (fun _ => rd_el (v := .int _ _) (4 * k + 1) 0 Tryz.one5 rfl (Has.arg 0 rfl) rfl (by omega) (Nat.le_of_ble_eq_true rfl) rfl) ?_
  refine DQ.rd rfl rfl (fun _ => rd_conv8_32 Tryz.isome5 Tryz.under137 rfl) ?_
  refine DQ.rd rfl rfl (fun _ => rd_shl32 (k := 16) rfl rfl (rfl) (by decide)) ?_
  refine DQ.rd rfl rfl (fun _ => rd_or32 rfl rfl) ?_
  refine DQ.rd rfl rfl (fun _ => rd_move (v := .slice _ _ _) rfl) ?_
  refine DQ.rd rfl rfl (fun _ => rd_move (v := .int _ _) rfl) ?_
  refine DQ.rd rfl rfl (fun _ => rd_mul rfl rfl (w64 (by omega) (by omega))) ?_
  refine DQ.rd rfl rfl (fun _ => rd_add rfl rfl (w64 (by omega) (by omega))) ?_
  refine DQ.rd rfl rfl (fun _ => rd_ix (k := (4 * k + 2)) Tryz.under62 Tryz.size5 rfl rfl (Has.arg 0 rfl) (by omega) (by omega) (by omega)) ?_
  refine DQ.rd rfl rfl (fun _ => rd_el (v := .int _ _) (4 * k + 2) 0 Tryz.one5 rfl (Has.arg 0 rfl) rfl (by omega) (Nat.le_of_ble_eq_true rfl) rfl) ?_
  refine DQ.rd rfl rfl (fun _ => rd_conv8_32 Tryz.isome5 Tryz.under137 rfl) ?_
  refine DQ.rd rfl rfl (fun _ => rd_shl32 (k := 8) rfl rfl (rfl) (by decide)) ?_
  refine DQ.rd rfl rfl (fun _ => rd_or32 rfl rfl) ?_
  refine DQ.rd rfl rfl (fun _ => rd_move (v := .slice _ _ _) rfl) ?_
  refine DQ.rd rfl rfl (fun _ => rd_move (v := .int _ _) rfl) ?_
  refine DQ.rd rfl rfl (fun _ => rd_mul rfl rfl (w64 (by omega) (by omega))) ?_
  refine DQ.rd rfl rfl (fun _ => rd_add rfl rfl (w64 (by omega) (by omega))) ?_
  refine DQ.rd rfl rfl (fun _ => rd_ix (k := (4 * k + 3)) Tryz.under62 Tryz.size5 rfl rfl (Has.arg 0 rfl) (by omega) (by omega) (by omega)) ?_
  refine DQ.rd rfl rfl (fun _ => rd_el (v := .int _ _) (4 * k + 3) 0 Tryz.one5 rfl (Has.arg 0 rfl) rfl (by omega) (Nat.le_of_ble_eq_true rfl) rfl) ?_
  refine DQ.rd rfl rfl (fun _ => rd_conv8_32 Tryz.isome5 Tryz.under137 rfl) ?_
  refine DQ.rd rfl rfl (fun _ => rd_or32 rfl rfl) ?_
  refine DQ.done rfl ?_
  refine rdx (rd_ixa (k) Tryz.under162 Tryz.size137 rfl rfl (by omega) (by omega)) ?_
  refine TO.store0 (cells' := ((w16 b (k + 1)).flatMap eW ++ List.replicate (64 - (k + 1)) (Value.int .u32 0)).toArray) (v := .int .u32 _) Tryz.size137 rfl rfl rfl (by rw [Nat.zero_add, Nat.mul_one]; rw [w16_succ, wordAt_get (by omega)]; exact over_snoc (l := w16 b k) (m := 64) (k := k) (by first | exact w16_len _ _ | omega) (by omega)) (by rw [List.size_toArray, List.length_append, eW_len, List.length_replicate]; (try rw [w16_len]); omega) rfl ?_
  refine TO.nil (TQ.block_normal (TQ.then_normal (T.region ?_)))
  refine rdx (rd_add rfl rfl (w64 (by omega) (by omega))) ?_
  refine rdx (rd_move (v := .int _ _) rfl) ?_
  refine TO.nil ?_
  refine TQ.againk (k + 1) ?_ ?_ (And.intro (rfl) (trivial)) (And.intro (rfl) (And.intro (rfl) (trivial))) (fun _ _ h => h)
  ·first | omega | (dsimp only; omega)
  ·first | omega | (dsimp only; omega)
 try simp only [nrm] at h2
 refine T.exit (TQ.then_exit (TQ.then_exit (TQ.block_out (TQ.then_normal (T.seq (T.seq (T.region ?_)))))))
 refine rdx (rd_assign (v := .int _ _) rfl) ?_
 refine TO.nil (TQ.then_normal (T.block ?_))
 obtain rfl : k = 16 := by omega
 refine T.loop2 [2] (fun (k : Nat) (wd : List UInt32) => [(4, .int .i64 (k : Nat))]) (fun (k : Nat) (wd : List UInt32) => [own b1 (wd.flatMap eW ++ List.replicate (64 - k) (Value.int .u32 0)).toArray 162]) (fun (k : Nat) (wd : List UInt32) => wd.length = k ∧ k ≤ 64 ∧ wext (64 - k) wd = sched b ∧ 16 ≤ k) (fun (k : Nat) (wd : List UInt32) => 64 - k) (16) (w16 b 16) (⟨w16_len _ _, by omega, rfl, by omega⟩) (And.intro (rfl) (trivial)) (fun _ _ h => h) fun k wd g1 hx1 => ?_
 obtain ⟨hwl, hk, hw, hk16⟩ := hx1
 refine T.seq (T.seq (T.region ?_))
 refine rdx (rd_move (v := .int _ _) rfl) ?_
 refine rdx (rd_lss rfl rfl) ?_
 refine TO.nil (TQ.then_normal ?_)
 refine T.cond_ft rfl (fun h3 => ?_) (fun h3 => ?_)
 ·try simp only [nrm] at h3
  refine T.exit (TQ.then_exit (TQ.then_exit (TQ.block_out (TQ.then_normal (T.seq (T.region ?_))))))
  have hwd := sched_wext hw (by omega)
  refine TO.own_eq (cells' := ((sched b).flatMap eW).toArray) (by rw [show 64 - k = 0 by omega, ← hwd]; simp) ?_
  refine rdx (rd_load_all (cs := (sched b).flatMap eW) Tryz.agg162 rfl (Has.own 0 rfl) (by rw [eW_len, sched_len])) ?_
  refine TO.store_all (cs := (sched b).flatMap eW) Tryz.size162 rfl rfl (by rw [eW_len, sched_len]) (by rw [eW_len, sched_len]) (flatMap_one (fun _ => rfl) _) ?_
  refine TO.nil (TQ.then_normal (T.ret ?_))
  refine TQ.value ?_ (res1 Tryz.results114 (Res.cells (cs := ((sched b).flatMap eW).toArray) Tryz.agg162 rfl (Has.own 0 rfl) (part_all' (by rw [eW_len, sched_len])) (by rw [List.size_toArray, eW_len, sched_len]))) _ (.inl rfl)
  rfl
 try simp only [nrm] at h3
 refine T.skip (TQ.then_normal (T.seq (T.block (T.seq ?_))))
 refine T.drawq Tryz.mixes 9 [(50, 0), (51, 1), (52, 2), (53, 3), (54, 4), (55, 5), (56, 6), (57, 7), (5, 8)] [0, 1, 3, 7, 0, 16, 48, 112, 15, 511] (by kernel_rfl) ?_
 refine DQ.rd rfl rfl (fun _ => rd_move (v := .int _ _) rfl) ?_
 refine DQ.rd rfl rfl (fun _ => rd_sub rfl rfl (w64 (by omega) (by omega))) ?_
 refine DQ.rd rfl rfl (fun _ => rd_ixa (k - 15) Tryz.under162 Tryz.size137 rfl rfl (by omega) (by omega)) ?_
 refine DQ.rd rfl rfl (fun _ => rd_loadk (k - 15) (v := .int .u32 (wd[k - 15]'(by omega)).toNat) Tryz.one137 rfl (Has.own 0 rfl) rfl (getw (l := wd) (by omega))) ?_
 refine DQ.rd rfl rfl (fun _ => rd_move (v := .int _ _) rfl) ?_
 refine DQ.rd rfl rfl (fun _ => rd_sub rfl rfl (w64 (by omega) (by omega))) ?_
 refine DQ.rd rfl rfl (fun _ => rd_ixa (k - 2) Tryz.under162 Tryz.size137 rfl rfl (by omega) (by omega)) ?_
 refine DQ.rd rfl rfl (fun _ => rd_loadk (k - 2) (v := .int .u32 (wd[k - 2]'(by omega)).toNat) Tryz.one137 rfl (Has.own 0 rfl) rfl (getw (l := wd) (by omega))) ?_
 refine DQ.rd rfl rfl (fun _ => rd_assign (v := .int _ _) rfl) ?_
 refine DQ.done rfl ?_
 refine rdx (rd_assign (v := .int _ _) rfl) ?_
 refine TO.nil (TQ.then_normal ?_)
 refine T.drawg Tryz.mixes 24 [(58, 0), (59, 1), (60, 2), (61, 3), (62, 4), (63, 5), (64, 6), (65, 7), (66, 8), (67, 9), (68, 10), (69, 11), (70, 12), (71, 13), (72, 14), (73, 15), (74, 16), (75, 17), (76, 18), (77, 19), (78, 20), (79, 21), (80, 22), (81, 23)] [0, 0, 2, 6, 14, 0, 0, 96, 0, 256, 992, 2046, 0, 4096, 12288, 28672, 65534, 0, 0, 393440, 0, 1048576, 4063456, 8388606, 16777215, 33554431] [6, 18] (by kernel_rfl) ?_
 refine DG.rd rfl rfl rfl (fun _ _ => rd_move (v := .int _ _) rfl) ?_
 refine DG.rd rfl rfl rfl (fun _ _ => rd_move (v := .int _ _) rfl) ?_
 refine DG.rd rfl rfl rfl (fun _ _ => rd_sub rfl rfl (w64 (by omega) (by omega))) ?_
 refine DG.rd rfl rfl rfl (fun _ _ => rd_ixa (k - 16) Tryz.under162 Tryz.size137 rfl rfl (by omega) (by omega)) ?_
 refine DG.rd rfl rfl rfl (fun _ _ => rd_loadk (k - 16) (v := .int .u32 (wd[k - 16]'(by omega)).toNat) Tryz.one137 rfl (Has.own 0 rfl) rfl (getw (l := wd) (by omega))) ?_
 refine DG.rd rfl rfl rfl (fun _ _ => rd_move (v := .int _ _) rfl) ?_
 refine DG.buildS (cs := [.int _ _, .int _ _]) rfl rfl Tryz.under110 Tryz.size3 Tryz.zero3 (Nat.le_of_ble_eq_true rfl) (fun _ _ => rfl) ?_
 refine DG.fnp rfl rfl Tryz.enters115 (fun ρ => c_mixed (wd[k - 15]'(by omega)) (some ⟨(ρ 6).2, 0, none⟩) 2 2 [7, 18] (by first | rfl | simp | omega) (by decide) (by decide)) (fun _ _ => rfl) (fun ρ M hM => (ReadsC (own_slc (e := eInt) [7, 18] rfl (fun _ => rfl) (Has.fromM 6 (hM 6 rfl)) (by simp)) Reads0)) ?_
 refine DG.rd rfl rfl rfl (fun _ _ => rd_move (v := .int _ _) rfl) ?_
 refine DG.rd rfl rfl rfl (fun _ _ => rd_shr32 (k := 3) rfl rfl (rfl) (by decide)) ?_
 refine DG.rd rfl rfl rfl (fun _ _ => rd_xor32 rfl rfl) ?_
 refine DG.rd rfl rfl rfl (fun _ _ => rd_add32 rfl rfl) ?_
 refine DG.rd rfl rfl rfl (fun _ _ => rd_move (v := .int _ _) rfl) ?_
 refine DG.rd rfl rfl rfl (fun _ _ => rd_sub rfl rfl (w64 (by omega) (by omega))) ?_
 refine DG.rd rfl rfl rfl (fun _ _ => rd_ixa (k - 7) Tryz.under162 Tryz.size137 rfl rfl (by omega) (by omega)) ?_
 refine DG.rd rfl rfl rfl (fun _ _ => rd_loadk (k - 7) (v := .int .u32 (wd[k - 7]'(by omega)).toNat) Tryz.one137 rfl (Has.own 0 rfl) rfl (getw (l := wd) (by omega))) ?_
 refine DG.rd rfl rfl rfl (fun _ _ => rd_add32 rfl rfl) ?_
 refine DG.rd rfl rfl rfl (fun _ _ => rd_move (v := .int _ _) rfl) ?_
 refine DG.buildS (cs := [.int _ _, .int _ _]) rfl rfl Tryz.under110 Tryz.size3 Tryz.zero3 (Nat.le_of_ble_eq_true rfl) (fun _ _ => rfl) ?_
 refine DG.fnp rfl rfl Tryz.enters115 (fun ρ => c_mixed (wd[k - 2]'(by omega)) (some ⟨(ρ 18).2, 0, none⟩) 2 2 [17, 19] (by first | rfl | simp | omega) (by decide) (by decide)) (fun _ _ => rfl) (fun ρ M hM => (ReadsC (own_slc (e := eInt) [17, 19] rfl (fun _ => rfl) (Has.fromM 18 (hM 18 rfl)) (by simp)) Reads0)) ?_
 refine DG.rd rfl rfl rfl (fun _ _ => rd_move (v := .int _ _) rfl) ?_
 refine DG.rd rfl rfl rfl (fun _ _ => rd_shr32 (k := 10) rfl rfl (rfl) (by decide)) ?_
 refine DG.rd rfl rfl rfl (fun _ _ => rd_xor32 rfl rfl) ?_
 refine DG.rd rfl rfl rfl (fun _ _ => rd_add32 rfl rfl) ?_
 refine DG.done rfl (by decide) rfl (fun gh6 => ?_)
 refine rdx (rd_ixa (k) Tryz.under162 Tryz.size137 rfl rfl (by omega) (by omega)) ?_
 refine TO.front2 ?_
 refine TO.store0 (cells' := ((wd ++ [wnext wd]).flatMap eW ++ List.replicate (64 - (k + 1)) (Value.int .u32 0)).toArray) (v := .int .u32 _) Tryz.size137 rfl rfl rfl (by rw [Nat.zero_add, Nat.mul_one]; rw [wnext_get hwl hk16, ← mixed_sx, ← mixed_sy]; exact over_snoc (l := wd) (m := 64) (k := k) (by first | exact w16_len _ _ | omega) (by omega)) (by rw [List.size_toArray, List.length_append, eW_len, List.length_replicate]; (try rw [w16_len]); omega) rfl ?_
 refine TO.nil (TQ.block_normal (TQ.then_normal (T.region ?_)))
 refine rdx (rd_move (v := .int _ _) rfl) ?_
 refine rdx (rd_add rfl rfl (w64 (by omega) (by omega))) ?_
 refine rdx (rd_assign (v := .int _ _) rfl) ?_
 refine TO.nil ?_
 refine TQ.againk (k + 1, wd ++ [wnext wd]) ?_ ?_ (And.intro (rfl) (trivial)) (And.intro (rfl) (trivial)) (fun _ _ h => h.sel (js := [0]) (by decide))
 ·refine ⟨by simp [hwl], by omega, ?_, by omega⟩
  rw [← hw, show 64 - k = (64 - (k + 1)) + 1 by omega]; rfl
 ·first | omega | (dsimp only; omega)
end Go.Proofs
end
