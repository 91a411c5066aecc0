/- What the proofs of this seat's statements lean on, part 3: a small program logic, plain facts, walks of functions. No statement of the seat is proved here. -/
import Derived.Test.YtlcbpicpociipaaDoorB2
import Derived.Test.YtlcbpicpociipaaDoorProg
section
/- Walks: what functions of the program do, by contract. Written by a program of this session. -/
set_option linter.unusedVariables false
set_option linter.unusedSimpArgs false
set_option maxRecDepth 100000
set_option maxHeartbeats 800000
namespace Go.Proofs
open Go.TL
attribute [local irreducible] Go.TL.T Go.TL.TO Go.TL.TQ
/- dialtone/wish.badProxy$1 -/
theorem c_badProxy1 (p : Proxy) : Cv Tryd.prog 77 #[proxyV p] [] (.bool (!(proxyOk p))) := by
  refine Ctr.intro Tryd.func77 rfl Tryd.ntmps77 (Nat.le_of_ble_eq_true rfl) fun S0 w0 => ?_
  refine T.seq ?_
  refine T.region ?_
  refine TO.box (v := .agg #[.int _ _, .int _ _, .int _ _, .int _ _, .int _ _, .int _ _, .string _]) rfl (fun b1 => ?_)
  refine TO.rd rfl rfl (rd_assign (v := .bool _) rfl) ?_
  refine TO.nil ?_
  refine TQ.then_normal ?_
  refine T.seq ?_
  refine T.region ?_
  refine TO.rd rfl rfl (rd_load_agg (cs := #[.int _ _, .int _ _, .int _ _, .int _ _, .int _ _, .int _ _, .string _]) Tryd.agg41 rfl (Has.own 0 rfl) rfl rfl) ?_
  refine TO.fn Tryd.enters45 (c_wish_isProxy _) rfl Reads0 ?_
  refine TO.rd rfl rfl (rd_not rfl) ?_
  refine TO.rd rfl rfl (rd_assign (v := .bool _) rfl) ?_
  refine TO.nil ?_
  refine TQ.then_normal ?_
  refine T.ret ?_
  refine TQ.value ?_ (res1 Tryd.results77 (Res.tmp (v := .bool _) rfl)) _ (.inl rfl)
  rfl
/- dialtone/wish.Encode$1 -/
theorem c_Encode1 (p : Proxy) : Cv Tryd.prog 62 #[proxyV p] [] (.bool (!(p.sig.length == 32))) := by
  refine Ctr.intro Tryd.func62 rfl Tryd.ntmps62 (Nat.le_of_ble_eq_true rfl) fun S0 w0 => ?_
  refine T.seq ?_
  refine T.region ?_
  refine TO.box (v := .agg #[.int _ _, .int _ _, .int _ _, .int _ _, .int _ _, .int _ _, .string _]) rfl (fun b1 => ?_)
  refine TO.rd rfl rfl (rd_assign (v := .bool _) rfl) ?_
  refine TO.nil ?_
  refine TQ.then_normal ?_
  refine T.seq ?_
  refine T.region ?_
  refine TO.rd rfl rfl (rd_fieldAddr Tryd.field41_4 rfl) ?_
  refine TO.rd rfl rfl (rd_load (v := .string _) Tryd.one9 rfl (Has.own 0 rfl) rfl) ?_
  refine TO.rd rfl rfl (rd_lens' Tryd.under9 rfl) ?_
  refine TO.rd rfl rfl (rd_neq rfl rfl) ?_
  refine TO.rd rfl rfl (rd_assign (v := .bool _) rfl) ?_
  refine TO.nil ?_
  refine TQ.then_normal ?_
  refine T.ret ?_
  refine TQ.value ?_ (res1 Tryd.results62 (Res.tmp (v := .bool _) rfl)) _ (.inl rfl)
  congr 1
  rw [bne]
  congr 1
  exact beq_nat32 _
/- dialtone/wish.Why$1 -/
theorem c_Why1 (s : Bytes) : Cv Tryd.prog 51 #[.string (str s)] [] (.bool (!(s.length == 32))) := by
  refine Ctr.intro Tryd.func51 rfl Tryd.ntmps51 (Nat.le_of_ble_eq_true rfl) fun S0 w0 => ?_
  refine T.seq ?_
  refine T.region ?_
  refine TO.rd rfl rfl (rd_assign (v := .bool _) rfl) ?_
  refine TO.nil ?_
  refine TQ.then_normal ?_
  refine T.seq ?_
  refine T.region ?_
  refine TO.rd rfl rfl (rd_move (v := .string _) rfl) ?_
  refine TO.fn Tryd.enters39 (c_wish_isKey _) rfl Reads0 ?_
  refine TO.rd rfl rfl (rd_not rfl) ?_
  refine TO.rd rfl rfl (rd_assign (v := .bool _) rfl) ?_
  refine TO.nil ?_
  refine TQ.then_normal ?_
  refine T.ret ?_
  refine TQ.value ?_ (res1 Tryd.results51 (Res.tmp (v := .bool _) rfl)) _ (.inl rfl)
  congr 2
  exact beq_nat32 _
/- slices.IndexFunc[[]dialtone/api.Proxy,dialtone/api.Proxy] -/
theorem c_IndexFuncP (A : Option Addr) (cap n : Nat) (l : List Proxy) (hn : n = l.length) (g : FuncId) (p : Proxy → Bool) (he : Enters Tryd.prog g) (hp : ∀ x, Cv Tryd.prog g #[proxyV x] [] (.bool (p x))) (hl : l.length ≤ 4611686018427387904) : Cv Tryd.prog 76 #[.slice A n cap, .func (.func g) #[] #[]] [slc proxyL 7 A l] (.int .i64 (ixInt (firstIx (fun i => p (l.getD i proxy0)) l.length))) := by
  subst hn
  refine Ctr.intro Tryd.func76 rfl Tryd.ntmps76 (Nat.le_of_ble_eq_true rfl) fun S0 w0 => ?_
  refine T.seq ?_
  refine T.region ?_
  refine TO.rd rfl rfl (rd_assign (v := .int _ _) rfl) ?_
  refine TO.nil ?_
  refine TQ.then_normal ?_
  refine T.seq ?_
  refine T.seq ?_
  refine T.region ?_
  refine TO.rd rfl rfl (rd_move (v := .slice _ _ _) rfl) ?_
  refine TO.rd rfl rfl (rd_lensl Tryd.under32 rfl) ?_
  refine TO.rd rfl rfl (rd_move (v := .int _ _) rfl) ?_
  refine TO.nil ?_
  refine TQ.then_normal ?_
  refine T.block ?_
  refine T.loop1 [0, 1, 7] (fun (k : Nat) => [(8, .int .i64 (k : Nat))]) (fun (k : Nat) => []) (fun (k : Nat) => k ≤ l.length ∧ okTo (fun i => p (l.getD i proxy0)) k) (fun (k : Nat) => l.length - k) (0) (⟨Nat.zero_le _, okTo.zero _⟩) (And.intro (rfl) (trivial)) (fun _ _ h => h) fun k g0 hx0 => ?_
  obtain ⟨hk, hk0⟩ := hx0
  refine T.seq ?_
  refine T.region ?_
  refine TO.rd rfl rfl (rd_lss rfl rfl) ?_
  refine TO.nil ?_
  refine TQ.then_normal ?_
  refine T.seq ?_
  refine T.cond_ft rfl (fun h1 => ?_) (fun h1 => ?_)
  · try simp only [decide_eq_true_eq, decide_eq_false_iff_not, Bool.not_eq_true', Bool.not_eq_false', Bool.not_eq_eq_eq_not, Bool.not_true, Bool.not_false, beq_iff_eq, beq_eq_false_iff_ne, bne_iff_ne, bne_eq_false_iff_eq, ne_eq, Int.not_lt, Int.not_le, Decidable.not_not] at h1
    refine T.exit ?_
    refine TQ.then_exit ?_
    refine TQ.then_exit ?_
    refine TQ.block_out ?_
    refine TQ.then_normal ?_
    refine T.seq ?_
    refine T.region ?_
    refine TO.rd rfl rfl (rd_assign (v := .int _ _) rfl) ?_
    refine TO.nil ?_
    refine TQ.then_normal ?_
    refine T.ret ?_
    refine TQ.value ?_ (res1 Tryd.results76 (Res.tmp (v := .int _ _) rfl)) _ (.inl rfl)
    rw [firstIx_none fun i hi => hk0 i (by omega)]; rfl
  try simp only [decide_eq_true_eq, decide_eq_false_iff_not, Bool.not_eq_true', Bool.not_eq_false', Bool.not_eq_eq_eq_not, Bool.not_true, Bool.not_false, beq_iff_eq, beq_eq_false_iff_ne, bne_iff_ne, bne_eq_false_iff_eq, ne_eq, Int.not_lt, Int.not_le, Decidable.not_not] at h1
  refine T.skip ?_
  refine TQ.then_normal ?_
  refine T.seq ?_
  refine T.block ?_
  refine T.seq ?_
  refine T.region ?_
  refine TO.rd rfl rfl (rd_move (v := .int _ _) rfl) ?_
  refine TO.rd rfl rfl (rd_assign (v := .int _ _) rfl) ?_
  refine TO.nil ?_
  refine TQ.then_normal ?_
  refine T.seq ?_
  refine T.region ?_
  refine TO.rd rfl rfl (rd_move (v := .func _ _ _) rfl) ?_
  refine TO.rd rfl rfl (rd_move (v := .slice _ _ _) rfl) ?_
  refine TO.rd rfl rfl (rd_move (v := .int _ _) rfl) ?_
  refine TO.rd rfl rfl (rd_ix Tryd.under32 Tryd.size41 rfl rfl (Has.arg 0 rfl) rfl (by omega) (by omega)) ?_
  refine TO.rd rfl rfl (rd_ela (cs := [.int _ _, .int _ _, .int _ _, .int _ _, .int _ _, .int _ _, .string _]) _ 0 Tryd.agg41 rfl (Has.arg 0 rfl) rfl (by omega) (Nat.le_of_ble_eq_true rfl) rfl rfl rfl) ?_
  refine TO.hand he rfl (hp (l[k]'(by omega))) rfl rfl Reads0 (fun _ _ => ?_)
  refine TO.nil ?_
  refine TQ.then_normal ?_
  refine T.cond_ft rfl (fun h2 => ?_) (fun h2 => ?_)
  · try simp only [decide_eq_true_eq, decide_eq_false_iff_not, Bool.not_eq_true', Bool.not_eq_false', Bool.not_eq_eq_eq_not, Bool.not_true, Bool.not_false, beq_iff_eq, beq_eq_false_iff_ne, bne_iff_ne, bne_eq_false_iff_eq, ne_eq, Int.not_lt, Int.not_le, Decidable.not_not] at h2
    refine T.skip ?_
    refine TQ.block_normal ?_
    refine TQ.then_normal ?_
    refine T.region ?_
    refine TO.rd rfl rfl (rd_add rfl rfl (w64 (by omega) (by omega))) ?_
    refine TO.rd rfl rfl (rd_move (v := .int _ _) rfl) ?_
    refine TO.nil ?_
    refine TQ.againk (k + 1) ?_ ?_ (And.intro (rfl) (trivial)) (And.intro (rfl) (And.intro (rfl) (And.intro (rfl) (trivial)))) (fun _ _ h => h)
    · exact ⟨by first | omega | (dsimp only; omega), hk0.next (by (try dsimp only); rw [getD_get _ (by omega)]; assumption)⟩
    · first | omega | (dsimp only; omega)
  try simp only [decide_eq_true_eq, decide_eq_false_iff_not, Bool.not_eq_true', Bool.not_eq_false', Bool.not_eq_eq_eq_not, Bool.not_true, Bool.not_false, beq_iff_eq, beq_eq_false_iff_ne, bne_iff_ne, bne_eq_false_iff_eq, ne_eq, Int.not_lt, Int.not_le, Decidable.not_not] at h2
  refine T.seq ?_
  refine T.region ?_
  refine TO.rd rfl rfl (rd_move (v := .int _ _) rfl) ?_
  refine TO.rd rfl rfl (rd_assign (v := .int _ _) rfl) ?_
  refine TO.nil ?_
  refine TQ.then_normal ?_
  refine T.ret ?_
  refine TQ.block_ret ?_
  refine TQ.then_ret ?_
  refine TQ.then_ret ?_
  refine TQ.block_ret ?_
  refine TQ.then_ret ?_
  refine TQ.value ?_ (res1 Tryd.results76 (Res.tmp (v := .int _ _) rfl)) _ (.inl rfl)
  rw [firstIx_some hk0 (by (try dsimp only); rw [getD_get _ (by omega)]; assumption) (by omega)]; rfl
/- slices.IndexFunc[[]string,string] -/
theorem c_IndexFuncS (A : Option Addr) (cap n : Nat) (l : List Bytes) (hn : n = l.length) (g : FuncId) (p : Bytes → Bool) (he : Enters Tryd.prog g) (hp : ∀ x, Cv Tryd.prog g #[.string (str x)] [] (.bool (p x))) (hl : l.length ≤ 4611686018427387904) : Cv Tryd.prog 81 #[.slice A n cap, .func (.func g) #[] #[]] [slc eStr 1 A l] (.int .i64 (ixInt (firstIx (fun i => p (l.getD i ([] : Bytes))) l.length))) := by
  subst hn
  refine Ctr.intro Tryd.func81 rfl Tryd.ntmps81 (Nat.le_of_ble_eq_true rfl) fun S0 w0 => ?_
  refine T.seq ?_
  refine T.region ?_
  refine TO.rd rfl rfl (rd_assign (v := .int _ _) rfl) ?_
  refine TO.nil ?_
  refine TQ.then_normal ?_
  refine T.seq ?_
  refine T.seq ?_
  refine T.region ?_
  refine TO.rd rfl rfl (rd_move (v := .slice _ _ _) rfl) ?_
  refine TO.rd rfl rfl (rd_lensl Tryd.under46 rfl) ?_
  refine TO.rd rfl rfl (rd_move (v := .int _ _) rfl) ?_
  refine TO.nil ?_
  refine TQ.then_normal ?_
  refine T.block ?_
  refine T.loop1 [0, 1, 7] (fun (k : Nat) => [(8, .int .i64 (k : Nat))]) (fun (k : Nat) => []) (fun (k : Nat) => k ≤ l.length ∧ okTo (fun i => p (l.getD i ([] : Bytes))) k) (fun (k : Nat) => l.length - k) (0) (⟨Nat.zero_le _, okTo.zero _⟩) (And.intro (rfl) (trivial)) (fun _ _ h => h) fun k g0 hx0 => ?_
  obtain ⟨hk, hk0⟩ := hx0
  refine T.seq ?_
  refine T.region ?_
  refine TO.rd rfl rfl (rd_lss rfl rfl) ?_
  refine TO.nil ?_
  refine TQ.then_normal ?_
  refine T.seq ?_
  refine T.cond_ft rfl (fun h1 => ?_) (fun h1 => ?_)
  · try simp only [decide_eq_true_eq, decide_eq_false_iff_not, Bool.not_eq_true', Bool.not_eq_false', Bool.not_eq_eq_eq_not, Bool.not_true, Bool.not_false, beq_iff_eq, beq_eq_false_iff_ne, bne_iff_ne, bne_eq_false_iff_eq, ne_eq, Int.not_lt, Int.not_le, Decidable.not_not] at h1
    refine T.exit ?_
    refine TQ.then_exit ?_
    refine TQ.then_exit ?_
    refine TQ.block_out ?_
    refine TQ.then_normal ?_
    refine T.seq ?_
    refine T.region ?_
    refine TO.rd rfl rfl (rd_assign (v := .int _ _) rfl) ?_
    refine TO.nil ?_
    refine TQ.then_normal ?_
    refine T.ret ?_
    refine TQ.value ?_ (res1 Tryd.results81 (Res.tmp (v := .int _ _) rfl)) _ (.inl rfl)
    rw [firstIx_none fun i hi => hk0 i (by omega)]; rfl
  try simp only [decide_eq_true_eq, decide_eq_false_iff_not, Bool.not_eq_true', Bool.not_eq_false', Bool.not_eq_eq_eq_not, Bool.not_true, Bool.not_false, beq_iff_eq, beq_eq_false_iff_ne, bne_iff_ne, bne_eq_false_iff_eq, ne_eq, Int.not_lt, Int.not_le, Decidable.not_not] at h1
  refine T.skip ?_
  refine TQ.then_normal ?_
  refine T.seq ?_
  refine T.block ?_
  refine T.seq ?_
  refine T.region ?_
  refine TO.rd rfl rfl (rd_move (v := .int _ _) rfl) ?_
  refine TO.rd rfl rfl (rd_assign (v := .int _ _) rfl) ?_
  refine TO.nil ?_
  refine TQ.then_normal ?_
  refine T.seq ?_
  refine T.region ?_
  refine TO.rd rfl rfl (rd_move (v := .func _ _ _) rfl) ?_
  refine TO.rd rfl rfl (rd_move (v := .slice _ _ _) rfl) ?_
  refine TO.rd rfl rfl (rd_move (v := .int _ _) rfl) ?_
  refine TO.rd rfl rfl (rd_ix Tryd.under46 Tryd.size9 rfl rfl (Has.arg 0 rfl) rfl (by omega) (by omega)) ?_
  refine TO.rd rfl rfl (rd_el (v := .string _) _ 0 Tryd.one9 rfl (Has.arg 0 rfl) rfl (by omega) (Nat.le_of_ble_eq_true rfl) rfl) ?_
  refine TO.hand he rfl (hp (l[k]'(by omega))) rfl rfl Reads0 (fun _ _ => ?_)
  refine TO.nil ?_
  refine TQ.then_normal ?_
  refine T.cond_ft rfl (fun h2 => ?_) (fun h2 => ?_)
  · try simp only [decide_eq_true_eq, decide_eq_false_iff_not, Bool.not_eq_true', Bool.not_eq_false', Bool.not_eq_eq_eq_not, Bool.not_true, Bool.not_false, beq_iff_eq, beq_eq_false_iff_ne, bne_iff_ne, bne_eq_false_iff_eq, ne_eq, Int.not_lt, Int.not_le, Decidable.not_not] at h2
    refine T.skip ?_
    refine TQ.block_normal ?_
    refine TQ.then_normal ?_
    refine T.region ?_
    refine TO.rd rfl rfl (rd_add rfl rfl (w64 (by omega) (by omega))) ?_
    refine TO.rd rfl rfl (rd_move (v := .int _ _) rfl) ?_
    refine TO.nil ?_
    refine TQ.againk (k + 1) ?_ ?_ (And.intro (rfl) (trivial)) (And.intro (rfl) (And.intro (rfl) (And.intro (rfl) (trivial)))) (fun _ _ h => h)
    · exact ⟨by first | omega | (dsimp only; omega), hk0.next (by (try dsimp only); rw [getD_get _ (by omega)]; assumption)⟩
    · first | omega | (dsimp only; omega)
  try simp only [decide_eq_true_eq, decide_eq_false_iff_not, Bool.not_eq_true', Bool.not_eq_false', Bool.not_eq_eq_eq_not, Bool.not_true, Bool.not_false, beq_iff_eq, beq_eq_false_iff_ne, bne_iff_ne, bne_eq_false_iff_eq, ne_eq, Int.not_lt, Int.not_le, Decidable.not_not] at h2
  refine T.seq ?_
  refine T.region ?_
  refine TO.rd rfl rfl (rd_move (v := .int _ _) rfl) ?_
  refine TO.rd rfl rfl (rd_assign (v := .int _ _) rfl) ?_
  refine TO.nil ?_
  refine TQ.then_normal ?_
  refine T.ret ?_
  refine TQ.block_ret ?_
  refine TQ.then_ret ?_
  refine TQ.then_ret ?_
  refine TQ.block_ret ?_
  refine TQ.then_ret ?_
  refine TQ.value ?_ (res1 Tryd.results81 (Res.tmp (v := .int _ _) rfl)) _ (.inl rfl)
  rw [firstIx_some hk0 (by (try dsimp only); rw [getD_get _ (by omega)]; assumption) (by omega)]; rfl
/- slices.ContainsFunc[[]dialtone/api.Proxy,dialtone/api.Proxy] -/
theorem c_ContainsFuncP (A : Option Addr) (cap n : Nat) (l : List Proxy) (hn : n = l.length) (g : FuncId) (p : Proxy → Bool) (he : Enters Tryd.prog g) (hp : ∀ x, Cv Tryd.prog g #[proxyV x] [] (.bool (p x))) (hl : l.length ≤ 4611686018427387904) : Cv Tryd.prog 63 #[.slice A n cap, .func (.func g) #[] #[]] [slc proxyL 7 A l] (.bool (decide (0 ≤ ixInt (firstIx (fun i => p (l.getD i proxy0)) l.length)))) := by
  subst hn
  refine Ctr.intro Tryd.func63 rfl Tryd.ntmps63 (Nat.le_of_ble_eq_true rfl) fun S0 w0 => ?_
  refine T.seq ?_
  refine T.region ?_
  refine TO.rd rfl rfl (rd_assign (v := .bool _) rfl) ?_
  refine TO.nil ?_
  refine TQ.then_normal ?_
  refine T.seq ?_
  refine T.region ?_
  refine TO.rd rfl rfl (rd_move (v := .slice _ _ _) rfl) ?_
  refine TO.rd rfl rfl (rd_move (v := .func _ _ _) rfl) ?_
  refine TO.fn Tryd.enters76 (c_IndexFuncP _ _ _ l rfl g p he hp hl) rfl (ReadsC (Has.arg 0 rfl) Reads0) ?_
  refine TO.rd rfl rfl (rd_geq rfl rfl) ?_
  refine TO.rd rfl rfl (rd_assign (v := .bool _) rfl) ?_
  refine TO.nil ?_
  refine TQ.then_normal ?_
  refine T.ret ?_
  refine TQ.value ?_ (res1 Tryd.results63 (Res.tmp (v := .bool _) rfl)) _ (.inl rfl)
  rfl
/- slices.ContainsFunc[[]string,string] -/
theorem c_ContainsFuncS (A : Option Addr) (cap n : Nat) (l : List Bytes) (hn : n = l.length) (g : FuncId) (p : Bytes → Bool) (he : Enters Tryd.prog g) (hp : ∀ x, Cv Tryd.prog g #[.string (str x)] [] (.bool (p x))) (hl : l.length ≤ 4611686018427387904) : Cv Tryd.prog 52 #[.slice A n cap, .func (.func g) #[] #[]] [slc eStr 1 A l] (.bool (decide (0 ≤ ixInt (firstIx (fun i => p (l.getD i ([] : Bytes))) l.length)))) := by
  subst hn
  refine Ctr.intro Tryd.func52 rfl Tryd.ntmps52 (Nat.le_of_ble_eq_true rfl) fun S0 w0 => ?_
  refine T.seq ?_
  refine T.region ?_
  refine TO.rd rfl rfl (rd_assign (v := .bool _) rfl) ?_
  refine TO.nil ?_
  refine TQ.then_normal ?_
  refine T.seq ?_
  refine T.region ?_
  refine TO.rd rfl rfl (rd_move (v := .slice _ _ _) rfl) ?_
  refine TO.rd rfl rfl (rd_move (v := .func _ _ _) rfl) ?_
  refine TO.fn Tryd.enters81 (c_IndexFuncS _ _ _ l rfl g p he hp hl) rfl (ReadsC (Has.arg 0 rfl) Reads0) ?_
  refine TO.rd rfl rfl (rd_geq rfl rfl) ?_
  refine TO.rd rfl rfl (rd_assign (v := .bool _) rfl) ?_
  refine TO.nil ?_
  refine TQ.then_normal ?_
  refine T.ret ?_
  refine TQ.value ?_ (res1 Tryd.results52 (Res.tmp (v := .bool _) rfl)) _ (.inl rfl)
  rfl
/- dialtone/wish.badProxy -/
theorem c_badProxy (A : Option Addr) (cap n : Nat) (l : List Proxy) (hn : n = l.length) (hl : l.length ≤ 4611686018427387904) : Cv Tryd.prog 44 #[.slice A n cap] [slc proxyL 7 A l] (.int .i64 (ixInt (firstIx (formP l) l.length))) := by
  subst hn
  refine Ctr.intro Tryd.func44 rfl Tryd.ntmps44 (Nat.le_of_ble_eq_true rfl) fun S0 w0 => ?_
  refine T.seq ?_
  refine T.region ?_
  refine TO.rd rfl rfl (rd_assign (v := .int _ _) rfl) ?_
  refine TO.nil ?_
  refine TQ.then_normal ?_
  refine T.seq ?_
  refine T.region ?_
  refine TO.rd rfl rfl (rd_move (v := .slice _ _ _) rfl) ?_
  refine TO.fn Tryd.enters76 (c_IndexFuncP _ _ _ l (by first | rfl | simp | omega) _ (fun x => !(proxyOk x)) Tryd.enters77 (fun x => c_badProxy1 x) (by first | omega | simp)) rfl (ReadsC (Has.arg 0 rfl) Reads0) ?_
  refine TO.rd rfl rfl (rd_assign (v := .int _ _) rfl) ?_
  refine TO.nil ?_
  refine TQ.then_normal ?_
  refine T.ret ?_
  refine TQ.value ?_ (res1 Tryd.results44 (Res.tmp (v := .int _ _) rfl)) _ (.inl rfl)
  rfl
/- dialtone/wish.Formed -/
theorem c_wish_Formed (w : Wish) (A : Option Addr) (cap n : Nat) (l : List Proxy) (hn : n = l.length) (hl : l.length ≤ 4611686018427387904) : Cv Tryd.prog 14 #[wishV w, .slice A n cap] [slc proxyL 7 A l] (.bool (formedOk w l)) := by
  subst hn
  refine Ctr.intro Tryd.func14 rfl Tryd.ntmps14 (Nat.le_of_ble_eq_true rfl) fun S0 w0 => ?_
  refine T.seq ?_
  refine T.region ?_
  refine TO.box (v := .agg #[.int _ _, .int _ _, .int _ _, .int _ _, .int _ _, .int _ _, .int _ _, .int _ _, .string _]) rfl (fun b1 => ?_)
  refine TO.rd rfl rfl (rd_assign (v := .bool _) rfl) ?_
  refine TO.nil ?_
  refine TQ.then_normal ?_
  refine T.seq ?_
  refine T.region ?_
  refine TO.rd rfl rfl (rd_load_agg (cs := #[.int _ _, .int _ _, .int _ _, .int _ _, .int _ _, .int _ _, .int _ _, .int _ _, .string _]) Tryd.agg31 rfl (Has.own 0 rfl) rfl rfl) ?_
  refine TO.fn Tryd.enters40 (c_wish_isWish _) rfl Reads0 ?_
  refine TO.rd rfl rfl (rd_move (v := .bool _) rfl) ?_
  refine TO.decide_ft (s := 7) rfl (fun h2 => ?_) (fun h2 => ?_)
  · try simp only [decide_eq_true_eq, decide_eq_false_iff_not, Bool.not_eq_true', Bool.not_eq_false', Bool.not_eq_eq_eq_not, Bool.not_true, Bool.not_false, beq_iff_eq, beq_eq_false_iff_ne, bne_iff_ne, bne_eq_false_iff_eq, ne_eq, Int.not_lt, Int.not_le, Decidable.not_not] at h2
    refine TO.guard_false (s := 7) (b' := false) rfl rfl nofun ?_
    refine TO.guard_false (s := 7) (b' := false) rfl rfl nofun ?_
    refine TO.guard_false (s := 7) (b' := false) rfl rfl nofun ?_
    refine TO.rd rfl rfl (rd_pick_false (v := .bool _) rfl rfl) ?_
    refine TO.rd rfl rfl (rd_move (v := .bool _) rfl) ?_
    refine TO.guard_false (s := 12) (b' := false) rfl rfl nofun ?_
    refine TO.guard_false (s := 12) (b' := false) rfl rfl nofun ?_
    refine TO.guard_false (s := 12) (b' := false) rfl rfl nofun ?_
    refine TO.rd rfl rfl (rd_pick_false (v := .bool _) rfl rfl) ?_
    refine TO.rd rfl rfl (rd_assign (v := .bool _) rfl) ?_
    refine TO.nil ?_
    refine TQ.then_normal ?_
    refine T.ret ?_
    refine TQ.value ?_ (res1 Tryd.results14 (Res.tmp (v := .bool _) rfl)) _ (.inl rfl)
    rw [formedOk, formOk_eq]; simp_all <;> omega
  try simp only [decide_eq_true_eq, decide_eq_false_iff_not, Bool.not_eq_true', Bool.not_eq_false', Bool.not_eq_eq_eq_not, Bool.not_true, Bool.not_false, beq_iff_eq, beq_eq_false_iff_ne, bne_iff_ne, bne_eq_false_iff_eq, ne_eq, Int.not_lt, Int.not_le, Decidable.not_not] at h2
  refine TO.guard_true (s := 7) rfl rfl ?_
  refine TO.rd rfl rfl (rd_move (v := .slice _ _ _) rfl) ?_
  refine TO.guard_true (s := 7) rfl rfl ?_
  refine TO.rd rfl rfl (rd_lensl Tryd.under32 rfl) ?_
  refine TO.guard_true (s := 7) rfl rfl ?_
  refine TO.rd rfl rfl (rd_leq rfl rfl) ?_
  refine TO.rd rfl rfl (rd_pick_true (v := .bool _) rfl rfl) ?_
  refine TO.rd rfl rfl (rd_move (v := .bool _) rfl) ?_
  refine TO.decide_ft (s := 12) rfl (fun h3 => ?_) (fun h3 => ?_)
  · try simp only [decide_eq_true_eq, decide_eq_false_iff_not, Bool.not_eq_true', Bool.not_eq_false', Bool.not_eq_eq_eq_not, Bool.not_true, Bool.not_false, beq_iff_eq, beq_eq_false_iff_ne, bne_iff_ne, bne_eq_false_iff_eq, ne_eq, Int.not_lt, Int.not_le, Decidable.not_not] at h3
    refine TO.guard_false (s := 12) (b' := false) rfl rfl nofun ?_
    refine TO.guard_false (s := 12) (b' := false) rfl rfl nofun ?_
    refine TO.guard_false (s := 12) (b' := false) rfl rfl nofun ?_
    refine TO.rd rfl rfl (rd_pick_false (v := .bool _) rfl rfl) ?_
    refine TO.rd rfl rfl (rd_assign (v := .bool _) rfl) ?_
    refine TO.nil ?_
    refine TQ.then_normal ?_
    refine T.ret ?_
    refine TQ.value ?_ (res1 Tryd.results14 (Res.tmp (v := .bool _) rfl)) _ (.inl rfl)
    rw [formedOk, formOk_eq]; simp_all <;> omega
  try simp only [decide_eq_true_eq, decide_eq_false_iff_not, Bool.not_eq_true', Bool.not_eq_false', Bool.not_eq_eq_eq_not, Bool.not_true, Bool.not_false, beq_iff_eq, beq_eq_false_iff_ne, bne_iff_ne, bne_eq_false_iff_eq, ne_eq, Int.not_lt, Int.not_le, Decidable.not_not] at h3
  refine TO.guard_true (s := 12) rfl rfl ?_
  refine TO.rd rfl rfl (rd_move (v := .slice _ _ _) rfl) ?_
  refine TO.guard_true (s := 12) rfl rfl ?_
  refine TO.fn Tryd.enters44 (c_badProxy _ _ _ l (by first | rfl | simp | omega) (by first | omega | assumption)) rfl (ReadsC (Has.arg 0 rfl) Reads0) ?_
  refine TO.guard_true (s := 12) rfl rfl ?_
  refine TO.rd rfl rfl (rd_lss rfl rfl) ?_
  refine TO.rd rfl rfl (rd_pick_true (v := .bool _) rfl rfl) ?_
  refine TO.rd rfl rfl (rd_assign (v := .bool _) rfl) ?_
  refine TO.nil ?_
  refine TQ.then_normal ?_
  refine T.ret ?_
  refine TQ.value ?_ (res1 Tryd.results14 (Res.tmp (v := .bool _) rfl)) _ (.inl rfl)
  rw [formedOk, formOk_eq]; simp_all <;> omega
/- dialtone/wish.isIn -/
theorem c_wish_isIn (a b c d : Int) (p : Proxy) : Cv Tryd.prog 83 #[.agg #[.int .i64 a, .int .i64 b], .agg #[.int .i64 c, .int .i64 d], proxyV p] [] (.bool (inScope a b c d p)) := by
  refine Ctr.intro Tryd.func83 rfl Tryd.ntmps83 (Nat.le_of_ble_eq_true rfl) fun S0 w0 => ?_
  refine T.seq ?_
  refine T.region ?_
  refine TO.box (v := .agg #[.int _ _, .int _ _]) rfl (fun b1 => ?_)
  refine TO.box (v := .agg #[.int _ _, .int _ _]) rfl (fun b2 => ?_)
  refine TO.box (v := .agg #[.int _ _, .int _ _, .int _ _, .int _ _, .int _ _, .int _ _, .string _]) rfl (fun b3 => ?_)
  refine TO.rd rfl rfl (rd_assign (v := .bool _) rfl) ?_
  refine TO.nil ?_
  refine TQ.then_normal ?_
  refine T.seq ?_
  refine T.region ?_
  refine TO.rd rfl rfl (rd_fieldAddr Tryd.field41_2 rfl) ?_
  refine TO.rd rfl rfl (rd_fieldAddr Tryd.field28_0 rfl) ?_
  refine TO.rd rfl rfl (rd_load (v := .int _ _) Tryd.one3 rfl (Has.own 0 rfl) rfl) ?_
  refine TO.rd rfl rfl (rd_fieldAddr Tryd.field28_0 rfl) ?_
  refine TO.rd rfl rfl (rd_load (v := .int _ _) Tryd.one3 rfl (Has.own 2 rfl) rfl) ?_
  refine TO.rd rfl rfl (rd_leq rfl rfl) ?_
  refine TO.rd rfl rfl (rd_move (v := .bool _) rfl) ?_
  refine TO.decide_ft (s := 13) rfl (fun h4 => ?_) (fun h4 => ?_)
  · refine TO.guard_false (s := 13) (b' := false) rfl rfl nofun ?_
    refine TO.guard_false (s := 13) (b' := false) rfl rfl nofun ?_
    refine TO.guard_false (s := 13) (b' := false) rfl rfl nofun ?_
    refine TO.guard_false (s := 13) (b' := false) rfl rfl nofun ?_
    refine TO.guard_false (s := 13) (b' := false) rfl rfl nofun ?_
    refine TO.guard_false (s := 13) (b' := false) rfl rfl nofun ?_
    refine TO.rd rfl rfl (rd_pick_false (v := .bool _) rfl rfl) ?_
    refine TO.rd rfl rfl (rd_move (v := .bool _) rfl) ?_
    refine TO.guard_false (s := 21) (b' := false) rfl rfl nofun ?_
    refine TO.guard_false (s := 21) (b' := false) rfl rfl nofun ?_
    refine TO.guard_false (s := 21) (b' := false) rfl rfl nofun ?_
    refine TO.guard_false (s := 21) (b' := false) rfl rfl nofun ?_
    refine TO.guard_false (s := 21) (b' := false) rfl rfl nofun ?_
    refine TO.guard_false (s := 21) (b' := false) rfl rfl nofun ?_
    refine TO.rd rfl rfl (rd_pick_false (v := .bool _) rfl rfl) ?_
    refine TO.rd rfl rfl (rd_move (v := .bool _) rfl) ?_
    refine TO.guard_false (s := 29) (b' := false) rfl rfl nofun ?_
    refine TO.guard_false (s := 29) (b' := false) rfl rfl nofun ?_
    refine TO.guard_false (s := 29) (b' := false) rfl rfl nofun ?_
    refine TO.guard_false (s := 29) (b' := false) rfl rfl nofun ?_
    refine TO.guard_false (s := 29) (b' := false) rfl rfl nofun ?_
    refine TO.guard_false (s := 29) (b' := false) rfl rfl nofun ?_
    refine TO.rd rfl rfl (rd_pick_false (v := .bool _) rfl rfl) ?_
    refine TO.rd rfl rfl (rd_assign (v := .bool _) rfl) ?_
    refine TO.nil ?_
    refine TQ.then_normal ?_
    refine T.ret ?_
    refine TQ.value ?_ (res1 Tryd.results83 (Res.tmp (v := .bool _) rfl)) _ (.inl rfl)
    show Value.bool _ = Value.bool _; simp [inScope, scopeOk, h4]
  refine TO.guard_true (s := 13) rfl rfl ?_
  refine TO.rd rfl rfl (rd_fieldAddr Tryd.field28_1 rfl) ?_
  refine TO.guard_true (s := 13) rfl rfl ?_
  refine TO.rd rfl rfl (rd_load (v := .int _ _) Tryd.one3 rfl (Has.own 2 rfl) rfl) ?_
  refine TO.guard_true (s := 13) rfl rfl ?_
  refine TO.rd rfl rfl (rd_fieldAddr Tryd.field41_2 rfl) ?_
  refine TO.guard_true (s := 13) rfl rfl ?_
  refine TO.rd rfl rfl (rd_fieldAddr Tryd.field28_1 rfl) ?_
  refine TO.guard_true (s := 13) rfl rfl ?_
  refine TO.rd rfl rfl (rd_load (v := .int _ _) Tryd.one3 rfl (Has.own 0 rfl) rfl) ?_
  refine TO.guard_true (s := 13) rfl rfl ?_
  refine TO.rd rfl rfl (rd_leq rfl rfl) ?_
  refine TO.rd rfl rfl (rd_pick_true (v := .bool _) rfl rfl) ?_
  refine TO.rd rfl rfl (rd_move (v := .bool _) rfl) ?_
  refine TO.decide_ft (s := 21) rfl (fun h5 => ?_) (fun h5 => ?_)
  · refine TO.guard_false (s := 21) (b' := false) rfl rfl nofun ?_
    refine TO.guard_false (s := 21) (b' := false) rfl rfl nofun ?_
    refine TO.guard_false (s := 21) (b' := false) rfl rfl nofun ?_
    refine TO.guard_false (s := 21) (b' := false) rfl rfl nofun ?_
    refine TO.guard_false (s := 21) (b' := false) rfl rfl nofun ?_
    refine TO.guard_false (s := 21) (b' := false) rfl rfl nofun ?_
    refine TO.rd rfl rfl (rd_pick_false (v := .bool _) rfl rfl) ?_
    refine TO.rd rfl rfl (rd_move (v := .bool _) rfl) ?_
    refine TO.guard_false (s := 29) (b' := false) rfl rfl nofun ?_
    refine TO.guard_false (s := 29) (b' := false) rfl rfl nofun ?_
    refine TO.guard_false (s := 29) (b' := false) rfl rfl nofun ?_
    refine TO.guard_false (s := 29) (b' := false) rfl rfl nofun ?_
    refine TO.guard_false (s := 29) (b' := false) rfl rfl nofun ?_
    refine TO.guard_false (s := 29) (b' := false) rfl rfl nofun ?_
    refine TO.rd rfl rfl (rd_pick_false (v := .bool _) rfl rfl) ?_
    refine TO.rd rfl rfl (rd_assign (v := .bool _) rfl) ?_
    refine TO.nil ?_
    refine TQ.then_normal ?_
    refine T.ret ?_
    refine TQ.value ?_ (res1 Tryd.results83 (Res.tmp (v := .bool _) rfl)) _ (.inl rfl)
    show Value.bool _ = Value.bool _; simp [inScope, scopeOk, h4, h5]
  refine TO.guard_true (s := 21) rfl rfl ?_
  refine TO.rd rfl rfl (rd_fieldAddr Tryd.field41_3 rfl) ?_
  refine TO.guard_true (s := 21) rfl rfl ?_
  refine TO.rd rfl rfl (rd_fieldAddr Tryd.field29_0 rfl) ?_
  refine TO.guard_true (s := 21) rfl rfl ?_
  refine TO.rd rfl rfl (rd_load (v := .int _ _) Tryd.one3 rfl (Has.own 0 rfl) rfl) ?_
  refine TO.guard_true (s := 21) rfl rfl ?_
  refine TO.rd rfl rfl (rd_fieldAddr Tryd.field29_0 rfl) ?_
  refine TO.guard_true (s := 21) rfl rfl ?_
  refine TO.rd rfl rfl (rd_load (v := .int _ _) Tryd.one3 rfl (Has.own 1 rfl) rfl) ?_
  refine TO.guard_true (s := 21) rfl rfl ?_
  refine TO.rd rfl rfl (rd_leq rfl rfl) ?_
  refine TO.rd rfl rfl (rd_pick_true (v := .bool _) rfl rfl) ?_
  refine TO.rd rfl rfl (rd_move (v := .bool _) rfl) ?_
  refine TO.decide_ft (s := 29) rfl (fun h6 => ?_) (fun h6 => ?_)
  · refine TO.guard_false (s := 29) (b' := false) rfl rfl nofun ?_
    refine TO.guard_false (s := 29) (b' := false) rfl rfl nofun ?_
    refine TO.guard_false (s := 29) (b' := false) rfl rfl nofun ?_
    refine TO.guard_false (s := 29) (b' := false) rfl rfl nofun ?_
    refine TO.guard_false (s := 29) (b' := false) rfl rfl nofun ?_
    refine TO.guard_false (s := 29) (b' := false) rfl rfl nofun ?_
    refine TO.rd rfl rfl (rd_pick_false (v := .bool _) rfl rfl) ?_
    refine TO.rd rfl rfl (rd_assign (v := .bool _) rfl) ?_
    refine TO.nil ?_
    refine TQ.then_normal ?_
    refine T.ret ?_
    refine TQ.value ?_ (res1 Tryd.results83 (Res.tmp (v := .bool _) rfl)) _ (.inl rfl)
    show Value.bool _ = Value.bool _; simp [inScope, scopeOk, h4, h5, h6]
  refine TO.guard_true (s := 29) rfl rfl ?_
  refine TO.rd rfl rfl (rd_fieldAddr Tryd.field29_1 rfl) ?_
  refine TO.guard_true (s := 29) rfl rfl ?_
  refine TO.rd rfl rfl (rd_load (v := .int _ _) Tryd.one3 rfl (Has.own 1 rfl) rfl) ?_
  refine TO.guard_true (s := 29) rfl rfl ?_
  refine TO.rd rfl rfl (rd_fieldAddr Tryd.field41_3 rfl) ?_
  refine TO.guard_true (s := 29) rfl rfl ?_
  refine TO.rd rfl rfl (rd_fieldAddr Tryd.field29_1 rfl) ?_
  refine TO.guard_true (s := 29) rfl rfl ?_
  refine TO.rd rfl rfl (rd_load (v := .int _ _) Tryd.one3 rfl (Has.own 0 rfl) rfl) ?_
  refine TO.guard_true (s := 29) rfl rfl ?_
  refine TO.rd rfl rfl (rd_leq rfl rfl) ?_
  refine TO.rd rfl rfl (rd_pick_true (v := .bool _) rfl rfl) ?_
  refine TO.rd rfl rfl (rd_assign (v := .bool _) rfl) ?_
  refine TO.nil ?_
  refine TQ.then_normal ?_
  refine T.ret ?_
  refine TQ.value ?_ (res1 Tryd.results83 (Res.tmp (v := .bool _) rfl)) _ (.inl rfl)
  show Value.bool _ = Value.bool _; simp [inScope, scopeOk, h4, h5, h6]
end Go.Proofs
end
section
/- Walks: what functions of the program do, by contract. Written by a program of this session. -/
set_option linter.unusedVariables false
set_option linter.unusedSimpArgs false
set_option maxRecDepth 100000
set_option maxHeartbeats 800000
namespace Go.Proofs
open Go.TL
attribute [local irreducible] Go.TL.T Go.TL.TO Go.TL.TQ
/- dialtone/wish.Decode$1 -/
theorem c_dec1_calm (b2 b3 b4 : Nat) : CalmD Tryd.prog 65 #[.pointer (some ⟨b2, 0, none⟩), .pointer (some ⟨b3, 0, none⟩), .pointer (some ⟨b4, 0, none⟩)] := by
  refine CalmD.intro Tryd.func65 rfl Tryd.ntmps65 (Nat.le_of_ble_eq_true rfl) rfl fun w0 => ?_
  refine T.block ?_
  refine T.seq ?_
  refine T.region ?_
  refine TO.rd rfl rfl (rd_eqi_nil Tryd.under20 rfl rfl) ?_
  refine TO.nil ?_
  refine TQ.then_normal ?_
  refine T.cond_true rfl ?_
  refine T.region ?_
  refine TO.rd rfl rfl (rd_assign (v := _) rfl) ?_
  refine TO.nil ?_
  refine TQ.block_normal ?_
  exact TQ.calm (.inl rfl)
theorem c_dec1_mends (b2 b3 b4 : Nat) (c2 : List Value) (h2 : c2.length = 9) (v3 v4 : Value) : Mends Tryd.prog 65 #[.pointer (some ⟨b2, 0, none⟩), .pointer (some ⟨b3, 0, none⟩), .pointer (some ⟨b4, 0, none⟩)] (.iface 112 (.agg #[])) [own b2 c2.toArray 31, own b3 #[v3] 32, own b4 #[v4] 35] [own b2 (wishC wish0) 31, own b3 #[.slice none 0 0] 32, own b4 #[.int .i64 150] 35] := by
  refine Mends.intro Tryd.func65 rfl Tryd.ntmps65 (Nat.le_of_ble_eq_true rfl) rfl fun S0 w0 => ?_
  refine T.block ?_
  refine T.seq ?_
  refine T.region ?_
  refine TO.rd rfl rfl (rd_eqi_some Tryd.under20 rfl rfl) ?_
  refine TO.nil ?_
  refine TQ.then_normal ?_
  refine T.cond_false rfl ?_
  refine T.seq ?_
  refine T.region ?_
  refine TO.rd rfl rfl (rd_assert' Tryd.notif112 rfl) ?_
  refine TO.rd rfl rfl (rd_extract (v := .bool _) (vs := _) rfl rfl) ?_
  refine TO.rd rfl rfl (rd_extract (v := .agg _) (vs := _) rfl rfl) ?_
  refine TO.nil ?_
  refine TQ.then_normal ?_
  refine T.cond_true rfl ?_
  refine T.seq ?_
  refine T.region ?_
  refine TO.alloc Tryd.zero112 (fun b1 => ?_)
  refine TO.store0 (cells' := #[]) Tryd.size112 rfl (v := .agg #[]) rfl rfl rfl (Nat.le_of_ble_eq_true rfl) rfl ?_
  refine TO.nil ?_
  refine TQ.then_normal ?_
  refine T.region ?_
  refine TO.rd rfl rfl (rd_build (cs := [.int _ _, .int _ _, .int _ _, .int _ _, .int _ _, .int _ _, .int _ _, .int _ _, .string _]) Tryd.places31 Tryd.zero31 rfl rfl) ?_
  refine TO.front1 ?_
  refine TO.store_whole (cs := wishL wish0) Tryd.size31 rfl rfl rfl h2 rfl ?_
  refine TO.front2 ?_
  refine TO.store0 (cells' := #[.slice none 0 0]) Tryd.size32 rfl (v := .slice none 0 0) rfl rfl rfl (Nat.le_of_ble_eq_true rfl) rfl ?_
  refine TO.front3 ?_
  refine TO.store0 (cells' := #[.int .i64 150]) Tryd.size35 rfl (v := .int .i64 150) rfl rfl rfl (Nat.le_of_ble_eq_true rfl) rfl ?_
  refine TO.nil ?_
  refine TQ.block_normal ?_
  exact TQ.mends (.inl rfl) (fun _ _ h => h.sel (js := [2, 1, 0]) (by decide))
end Go.Proofs
end
section
/- Walks: what functions of the program do, by contract. Written by a program of this session. -/
set_option linter.unusedVariables false
set_option linter.unusedSimpArgs false
set_option maxRecDepth 100000
set_option maxHeartbeats 800000
namespace Go.Proofs
open Go.TL
attribute [local irreducible] Go.TL.T Go.TL.TO Go.TL.TQ
/- dialtone/wish.Decode -/
theorem c_wish_Decode (s : Bytes) (hs : s.length ≤ 1000000000000) : Ctr Tryd.prog 30 #[.string (str s)] [] [] (γ := Option Addr × Nat) (fun x => True) (fun x => .tuple #[wishV (decodeOf s).1, .slice x.1 (decodeOf s).2.1.length x.2, .int .i64 (decodeOf s).2.2]) (fun x => [row 41 7 x.1 (decodeOf s).2.1.length x.2 ((decodeOf s).2.1.flatMap proxyL)]) := by
  refine Ctr.introD Tryd.func30 rfl Tryd.ntmps30 (Nat.le_of_ble_eq_true rfl) fun S0 w0 => ?_
  refine T.seq ?_
  refine T.region ?_
  refine TO.alloc Tryd.zero31 (fun b1 => ?_)
  refine TO.alloc Tryd.zero32 (fun b2 => ?_)
  refine TO.newrow 41 7 ?_
  refine TO.alloc Tryd.zero35 (fun b3 => ?_)
  refine TO.nil ?_
  refine TQ.then_normal ?_
  refine T.seq ?_
  refine T.region ?_
  refine TO.rd rfl rfl (rd_clo (b := [_, _, _]) rfl) ?_
  refine TO.defer rfl ?_
  refine TO.nil ?_
  refine TQ.then_normal ?_
  refine T.seq ?_
  refine T.region ?_
  refine TO.rd rfl rfl (rd_move (v := .string _) rfl) ?_
  refine TO.rd rfl rfl (rd_build (cs := [.string _, .int _ _]) Tryd.places115 Tryd.zero115 rfl rfl) ?_
  refine TO.box (v := .agg #[.string _, .int _ _]) rfl (fun b4 => ?_)
  refine TO.own_eq (cells' := #[.string (str s), .int .i64 ((0 : Nat) : Int)]) (by rfl) ?_
  refine TO.rd rfl rfl (rd_assign (v := .pointer _) rfl) ?_
  refine TO.nil ?_
  refine TQ.then_normal ?_
  refine T.seq ?_
  refine T.region ?_
  refine TO.rd rfl rfl (rd_move (v := .pointer _) rfl) ?_
  refine TO.handX Tryd.enters66 rfl (c_rd_number _ _ _ hs) rfl rfl Reads0 (fun hp7 => ?_) (fun ⟨m, a1⟩ hm => ?_)
  · refine TQ.then_panic ?_
    have hd : decodeOf s = (wish0, [], 150) := dec1 hp7
    refine TQ.front2 ?_
    refine TQ.front3 ?_
    exact TQ.panicD Tryd.enters65 (c_dec1_mends _ _ _ _ (by first | rfl | (rw [NC_len (by omega)])) _ _) rfl (none, 0) trivial (by rw [hd]; rfl) (fun S w h => by rw [hd]; exact one_seps nil_row) (res3 Tryd.results30 (Res.cells (cs := wishC wish0) Tryd.agg31 rfl (Has.own 0 rfl) rfl rfl) (Res.cell (v := .slice none 0 0) Tryd.one32 rfl (Has.own 1 rfl) rfl) (Res.cell (v := .int .i64 150) Tryd.one35 rfl (Has.own 2 rfl) rfl))
  refine TO.rd rfl rfl (rd_assign (v := .int _ _) rfl) ?_
  refine TO.nil ?_
  refine TQ.then_normal ?_
  refine T.seq ?_
  refine T.seq ?_
  refine T.region ?_
  refine TO.rd rfl rfl (rd_move (v := .int _ _) rfl) ?_
  refine TO.fn Tryd.enters53 (c_wish_isWithin _ _ _) rfl Reads0 ?_
  refine TO.rd rfl rfl (rd_not rfl) ?_
  refine TO.nil ?_
  refine TQ.then_normal ?_
  refine T.cond rfl (fun h8 => ?_) (fun h8 => ?_)
  · try simp only [decide_eq_true_eq, decide_eq_false_iff_not, Bool.not_eq_true', Bool.not_eq_false', Bool.not_eq_eq_eq_not, Bool.not_true, Bool.not_false, beq_iff_eq, beq_eq_false_iff_ne, bne_iff_ne, bne_eq_false_iff_eq, ne_eq, Int.not_lt, Int.not_le, Decidable.not_not] at h8
    refine T.region ?_
    refine TO.rd rfl rfl (rd_build (cs := []) Tryd.places112 Tryd.zero112 rfl rfl) ?_
    refine TO.rd rfl rfl (rd_makeIface' Tryd.notif112 rfl) ?_
    refine TO.panic rfl ?_
    refine TQ.then_panic ?_
    have hd : decodeOf s = (wish0, [], 150) := dec2 hm h8
    refine TQ.front1 ?_
    refine TQ.front3 ?_
    refine TQ.front4 ?_
    exact TQ.panicD Tryd.enters65 (c_dec1_mends _ _ _ _ (by first | rfl | (rw [NC_len (by omega)])) _ _) rfl (none, 0) trivial (by rw [hd]; rfl) (fun S w h => by rw [hd]; exact one_seps nil_row) (res3 Tryd.results30 (Res.cells (cs := wishC wish0) Tryd.agg31 rfl (Has.own 0 rfl) rfl rfl) (Res.cell (v := .slice none 0 0) Tryd.one32 rfl (Has.own 1 rfl) rfl) (Res.cell (v := .int .i64 150) Tryd.one35 rfl (Has.own 2 rfl) rfl))
  try simp only [decide_eq_true_eq, decide_eq_false_iff_not, Bool.not_eq_true', Bool.not_eq_false', Bool.not_eq_eq_eq_not, Bool.not_true, Bool.not_false, beq_iff_eq, beq_eq_false_iff_ne, bne_iff_ne, bne_eq_false_iff_eq, ne_eq, Int.not_lt, Int.not_le, Decidable.not_not] at h8
  refine T.skip ?_
  refine TQ.then_normal ?_
  refine T.seq ?_
  refine T.seq ?_
  refine T.region ?_
  refine TO.rd rfl rfl (rd_move (v := .int _ _) rfl) ?_
  have hwt := h8
  have hm4 : 0 ≤ m ∧ m ≤ 4 := by have hq := hwt; simp only [within, Bool.and_eq_true, decide_eq_true_eq] at hq; exact hq
  refine TO.rd rfl rfl (rd_move (v := .int _ _) rfl) ?_
  refine TO.nil ?_
  refine TQ.then_normal ?_
  refine T.block ?_
  refine T.front2 ?_
  refine T.front3 ?_
  refine T.front2 ?_
  refine T.loop5 [0, 2, 3, 4, 5, 23] (fun (A : Option Addr) (cap : Nat) (k : Nat) (l : List Proxy) (a : Nat) => [(24, .int .i64 (k : Nat))]) (fun (A : Option Addr) (cap : Nat) (k : Nat) (l : List Proxy) (a : Nat) => [own b4 #[.string (str s), .int .i64 ((a : Nat) : Int)] 115, own b2 #[.slice A k cap] 32, row 41 7 A k cap (l.flatMap proxyL)]) (fun (A : Option Addr) (cap : Nat) (k : Nat) (l : List Proxy) (a : Nat) => rdPs s k a1 = some (l, a) ∧ l.length = k ∧ k ≤ m.toNat) (fun (A : Option Addr) (cap : Nat) (k : Nat) (l : List Proxy) (a : Nat) => m.toNat - k) (none) (0) (0) ([]) (a1) (⟨rfl, rfl, Nat.zero_le _⟩) (And.intro (rfl) (trivial)) (fun _ _ h => h) fun A cap k l a g0 hx0 => ?_
  obtain ⟨hps, hlk, hkm⟩ := hx0
  refine T.seq ?_
  refine T.region ?_
  refine TO.rd rfl rfl (rd_lss rfl rfl) ?_
  refine TO.nil ?_
  refine TQ.then_normal ?_
  refine T.seq ?_
  refine T.cond rfl (fun h9 => ?_) (fun h9 => ?_)
  · try simp only [decide_eq_true_eq, decide_eq_false_iff_not, Bool.not_eq_true', Bool.not_eq_false', Bool.not_eq_eq_eq_not, Bool.not_true, Bool.not_false, beq_iff_eq, beq_eq_false_iff_ne, bne_iff_ne, bne_eq_false_iff_eq, ne_eq, Int.not_lt, Int.not_le, Decidable.not_not] at h9
    refine T.skip ?_
    refine TQ.then_normal ?_
    refine T.seq ?_
    refine T.block ?_
    refine T.seq ?_
    refine T.region ?_
    refine TO.alloc Tryd.zero41 (fun b10 => ?_)
    refine TO.nil ?_
    refine TQ.then_normal ?_
    refine T.seq ?_
    refine T.region ?_
    refine TO.rd rfl rfl (rd_move (v := .pointer _) rfl) ?_
    refine TO.front1 ?_
    refine TO.handX Tryd.enters67 rfl (c_rd_kind _ _ _ hs _) rfl rfl Reads0 (fun hp13 => ?_) (fun b1n hb => ?_)
    · refine TQ.then_panic ?_
      refine TQ.block_panic ?_
      refine TQ.then_panic ?_
      refine TQ.then_panic ?_
      refine TQ.block_panic ?_
      refine TQ.then_panic ?_
      have hd : decodeOf s = (wish0, [], 150) := dec3 hm hps (by omega) (by rw [rdP, hp13]; rfl)
      refine TQ.front3 ?_
      refine TQ.front2 ?_
      refine TQ.front4 ?_
      exact TQ.panicD Tryd.enters65 (c_dec1_mends _ _ _ _ (by first | rfl | (rw [NC_len (by omega)])) _ _) rfl (none, 0) trivial (by rw [hd]; rfl) (fun S w h => by rw [hd]; exact one_seps nil_row) (res3 Tryd.results30 (Res.cells (cs := wishC wish0) Tryd.agg31 rfl (Has.own 0 rfl) rfl rfl) (Res.cell (v := .slice none 0 0) Tryd.one32 rfl (Has.own 1 rfl) rfl) (Res.cell (v := .int .i64 150) Tryd.one35 rfl (Has.own 2 rfl) rfl))
    refine TO.nil ?_
    refine TQ.then_normal ?_
    refine T.seq ?_
    refine T.seq ?_
    refine T.region ?_
    refine TO.rd rfl rfl (rd_fieldAddr Tryd.field41_0 rfl) ?_
    refine TO.rd rfl rfl (rd_fieldAddr Tryd.field41_1 rfl) ?_
    refine TO.rd rfl rfl (rd_fieldAddr Tryd.field41_2 rfl) ?_
    refine TO.rd rfl rfl (rd_fieldAddr Tryd.field28_0 rfl) ?_
    refine TO.rd rfl rfl (rd_fieldAddr Tryd.field41_2 rfl) ?_
    refine TO.rd rfl rfl (rd_fieldAddr Tryd.field28_1 rfl) ?_
    refine TO.rd rfl rfl (rd_fieldAddr Tryd.field41_3 rfl) ?_
    refine TO.rd rfl rfl (rd_fieldAddr Tryd.field29_0 rfl) ?_
    refine TO.rd rfl rfl (rd_fieldAddr Tryd.field41_3 rfl) ?_
    refine TO.rd rfl rfl (rd_fieldAddr Tryd.field29_1 rfl) ?_
    refine TO.rd rfl rfl (rd_builda (cs := [.pointer _, .pointer _, .pointer _, .pointer _, .pointer _, .pointer _]) Tryd.under119 Tryd.size118 Tryd.zero119 rfl rfl) ?_
    refine TO.rd rfl rfl (rd_move (v := .int _ _) rfl) ?_
    refine TO.nil ?_
    refine TQ.then_normal ?_
    refine T.block ?_
    refine T.front1 ?_
    refine T.front1 ?_
    refine T.loop3 [0, 2, 3, 4, 5, 7, 23, 24, 38] (fun (j : Nat) (nums : List Int) (c : Nat) => [(39, .int .i64 (j : Nat))]) (fun (j : Nat) (nums : List Int) (c : Nat) => [own b4 #[.string (str s), .int .i64 ((c : Nat) : Int)] 115, own b10 (NC 6 nums).toArray 41]) (fun (j : Nat) (nums : List Int) (c : Nat) => rdNs s j b1n = some (nums, c) ∧ j ≤ 6) (fun (j : Nat) (nums : List Int) (c : Nat) => 6 - j) (0) ([]) (b1n) (⟨rfl, Nat.zero_le _⟩) (And.intro (rfl) (trivial)) (fun _ _ h => h) fun j nums c g1 hx1 => ?_
    obtain ⟨hns, hj⟩ := hx1
    have hnl : nums.length = j := rdNs_len hns
    refine T.seq ?_
    refine T.region ?_
    refine TO.rd rfl rfl (rd_lss rfl rfl) ?_
    refine TO.nil ?_
    refine TQ.then_normal ?_
    refine T.seq ?_
    refine T.cond rfl (fun h14 => ?_) (fun h14 => ?_)
    · try simp only [decide_eq_true_eq, decide_eq_false_iff_not, Bool.not_eq_true', Bool.not_eq_false', Bool.not_eq_eq_eq_not, Bool.not_true, Bool.not_false, beq_iff_eq, beq_eq_false_iff_ne, bne_iff_ne, bne_eq_false_iff_eq, ne_eq, Int.not_lt, Int.not_le, Decidable.not_not] at h14
      refine T.skip ?_
      refine TQ.then_normal ?_
      refine T.seq ?_
      refine T.block ?_
      refine T.seq ?_
      refine T.region ?_
      refine TO.rd rfl rfl (rd_index_arr j (v := .pointer (some ⟨b10, j, none⟩)) Tryd.under119 Tryd.one118 Tryd.size118 rfl rfl rfl (by omega) (ptr6 (by omega))) ?_
      refine TO.rd rfl rfl (rd_assign (v := .pointer _) rfl) ?_
      refine TO.nil ?_
      refine TQ.then_normal ?_
      refine T.region ?_
      refine TO.rd rfl rfl (rd_move (v := .pointer _) rfl) ?_
      refine TO.rd rfl rfl (rd_move (v := .pointer _) rfl) ?_
      refine TO.handX Tryd.enters66 rfl (c_rd_number _ _ _ hs) rfl rfl Reads0 (fun hp17 => ?_) (fun ⟨v, c1⟩ hv => ?_)
      · refine TQ.block_panic ?_
        refine TQ.then_panic ?_
        refine TQ.then_panic ?_
        refine TQ.block_panic ?_
        refine TQ.then_panic ?_
        refine TQ.block_panic ?_
        refine TQ.then_panic ?_
        refine TQ.then_panic ?_
        refine TQ.block_panic ?_
        refine TQ.then_panic ?_
        have hd : decodeOf s = (wish0, [], 150) := dec3 hm hps (by omega) (by rw [rdP, hb, Option.bind_some, rdNs_none hns hp17 (by omega)]; rfl)
        refine TQ.front3 ?_
        refine TQ.front2 ?_
        refine TQ.front4 ?_
        exact TQ.panicD Tryd.enters65 (c_dec1_mends _ _ _ _ (by first | rfl | (rw [NC_len (by omega)])) _ _) rfl (none, 0) trivial (by rw [hd]; rfl) (fun S w h => by rw [hd]; exact one_seps nil_row) (res3 Tryd.results30 (Res.cells (cs := wishC wish0) Tryd.agg31 rfl (Has.own 0 rfl) rfl rfl) (Res.cell (v := .slice none 0 0) Tryd.one32 rfl (Has.own 1 rfl) rfl) (Res.cell (v := .int .i64 150) Tryd.one35 rfl (Has.own 2 rfl) rfl))
      refine TO.rd rfl rfl (rd_nilCheck rfl) ?_
      refine TO.front1 ?_
      refine TO.store0 (o := j) (cells' := (NC 6 (nums ++ [v])).toArray) (v := .int .i64 v) Tryd.size3 rfl rfl rfl (by exact over_num hnl (by omega)) (by rw [List.size_toArray, NC_len (by omega)]; omega) rfl ?_
      refine TO.nil ?_
      refine TQ.block_normal ?_
      refine TQ.then_normal ?_
      refine T.region ?_
      refine TO.rd rfl rfl (rd_add rfl rfl (w64 (by omega) (by omega))) ?_
      refine TO.rd rfl rfl (rd_move (v := .int _ _) rfl) ?_
      refine TO.nil ?_
      refine TQ.againk (j + 1, nums ++ [v], c1) ?_ ?_ (And.intro (rfl) (trivial)) (And.intro (rfl) (And.intro (rfl) (And.intro (rfl) (And.intro (rfl) (And.intro (rfl) (And.intro (rfl) (And.intro (rfl) (And.intro (rfl) (And.intro (rfl) (trivial)))))))))) (fun _ _ h => h.sel (js := [1, 0, 2, 3, 4, 5]) (by decide))
      · exact ⟨by simp only [rdNs, hns, Option.bind_some, hv], by dsimp only; omega⟩
      · first | omega | (dsimp only; omega)
    try simp only [decide_eq_true_eq, decide_eq_false_iff_not, Bool.not_eq_true', Bool.not_eq_false', Bool.not_eq_eq_eq_not, Bool.not_true, Bool.not_false, beq_iff_eq, beq_eq_false_iff_ne, bne_iff_ne, bne_eq_false_iff_eq, ne_eq, Int.not_lt, Int.not_le, Decidable.not_not] at h14
    refine T.exit ?_
    refine TQ.then_exit ?_
    refine TQ.then_exit ?_
    refine TQ.block_out ?_
    refine TQ.then_normal ?_
    refine T.seq ?_
    refine T.region ?_
    refine TO.rd rfl rfl (rd_move (v := .pointer _) rfl) ?_
    have hj6 : j = 6 := by omega
    have hle1 : c ≤ s.length := rdNs_le hns (rdK_next hb)
    refine TO.handX Tryd.enters68 rfl (c_rd_digest _ _ _ hs (by first | assumption | omega)) rfl rfl Reads0 (fun hp20 => ?_) (fun ⟨g, a2⟩ hg => ?_)
    · refine TQ.then_panic ?_
      refine TQ.block_panic ?_
      refine TQ.then_panic ?_
      refine TQ.then_panic ?_
      refine TQ.block_panic ?_
      refine TQ.then_panic ?_
      have hd : decodeOf s = (wish0, [], 150) := dec3 hm hps (by omega) (by rw [rdP, hb, Option.bind_some, ← hj6, hns, Option.bind_some, hp20]; rfl)
      refine TQ.front3 ?_
      refine TQ.front2 ?_
      refine TQ.front4 ?_
      exact TQ.panicD Tryd.enters65 (c_dec1_mends _ _ _ _ (by first | rfl | (rw [NC_len (by omega)])) _ _) rfl (none, 0) trivial (by rw [hd]; rfl) (fun S w h => by rw [hd]; exact one_seps nil_row) (res3 Tryd.results30 (Res.cells (cs := wishC wish0) Tryd.agg31 rfl (Has.own 0 rfl) rfl rfl) (Res.cell (v := .slice none 0 0) Tryd.one32 rfl (Has.own 1 rfl) rfl) (Res.cell (v := .int .i64 150) Tryd.one35 rfl (Has.own 2 rfl) rfl))
    refine TO.rd rfl rfl (rd_fieldAddr Tryd.field41_4 rfl) ?_
    refine TO.front1 ?_
    refine TO.own_eq (cells' := proxyC (proxyOf nums [])) (by rw [NC6 (by omega)]; rfl) ?_
    refine TO.store0 (cells' := #[.int _ _, .int _ _, .int _ _, .int _ _, .int _ _, .int _ _, .string _]) Tryd.size9 rfl (v := .string _) rfl rfl rfl (Nat.le_of_ble_eq_true rfl) rfl ?_
    refine TO.nil ?_
    refine TQ.then_normal ?_
    refine T.region ?_
    refine TO.rd rfl rfl (rd_load (v := .slice _ _ _) Tryd.one32 rfl (Has.own 2 rfl) rfl) ?_
    refine TO.rd rfl rfl (rd_load_agg (cs := proxyC (proxyOf nums g)) Tryd.agg41 rfl (Has.own 0 rfl) rfl rfl) ?_
    refine TO.buildS (cs := [.int _ _, .int _ _, .int _ _, .int _ _, .int _ _, .int _ _, .string _]) Tryd.under32 Tryd.size41 Tryd.zero41 (Nat.le_of_ble_eq_true rfl) rfl (fun b21 => ?_)
    refine TO.front4 ?_
    refine TO.app Tryd.trow41 Tryd.under32 (.inl ⟨_, Tryd.under32⟩) rfl rfl (Src.own1 1 rfl rfl) rfl rfl (by omega) (fun A22 c23 hc24 => ?_)
    refine TO.row_eq (k' := k + 1) (cs' := (l ++ [proxyOf nums g]).flatMap proxyL) rfl (by rw [List.flatMap_append]; rfl) ?_
    refine TO.front4 ?_
    refine TO.store0 (cells' := #[.slice _ _ _]) Tryd.size32 rfl (v := .slice _ _ _) rfl rfl rfl (Nat.le_of_ble_eq_true rfl) rfl ?_
    refine TO.nil ?_
    refine TQ.block_normal ?_
    refine TQ.then_normal ?_
    refine T.region ?_
    refine TO.rd rfl rfl (rd_add rfl rfl (w64 (by omega) (by omega))) ?_
    refine TO.rd rfl rfl (rd_move (v := .int _ _) rfl) ?_
    refine TO.nil ?_
    refine TQ.againk (A22, c23, k + 1, l ++ [proxyOf nums g], a2) ?_ ?_ (And.intro (rfl) (trivial)) (And.intro (rfl) (And.intro (rfl) (And.intro (rfl) (And.intro (rfl) (And.intro (rfl) (And.intro (rfl) (trivial))))))) (fun _ _ h => h.sel (js := [4, 0, 1, 5, 6]) (by decide))
    · refine ⟨?_, by dsimp only; rw [List.length_append, hlk]; rfl, by dsimp only; omega⟩
      simp only [rdPs, hps, Option.bind_some, rdP, hb, ← hj6, hns, hg]
    · first | omega | (dsimp only; omega)
  try simp only [decide_eq_true_eq, decide_eq_false_iff_not, Bool.not_eq_true', Bool.not_eq_false', Bool.not_eq_eq_eq_not, Bool.not_true, Bool.not_false, beq_iff_eq, beq_eq_false_iff_ne, bne_iff_ne, bne_eq_false_iff_eq, ne_eq, Int.not_lt, Int.not_le, Decidable.not_not] at h9
  refine T.exit ?_
  refine TQ.then_exit ?_
  refine TQ.then_exit ?_
  refine TQ.block_out ?_
  refine TQ.then_normal ?_
  refine T.seq ?_
  refine T.region ?_
  refine TO.rd rfl rfl (rd_move (v := .pointer _) rfl) ?_
  refine TO.handX Tryd.enters67 rfl (c_rd_kind _ _ _ hs _) rfl rfl Reads0 (fun hp27 => ?_) (fun b2n hb2 => ?_)
  · refine TQ.then_panic ?_
    have hd : decodeOf s = (wish0, [], 150) := dec4 hm hps (by omega) (by rw [rdW, hp27]; rfl)
    refine TQ.front2 ?_
    refine TQ.front1 ?_
    refine TQ.front3 ?_
    exact TQ.panicD Tryd.enters65 (c_dec1_mends _ _ _ _ (by first | rfl | (rw [NC_len (by omega)])) _ _) rfl (none, 0) trivial (by rw [hd]; rfl) (fun S w h => by rw [hd]; exact one_seps nil_row) (res3 Tryd.results30 (Res.cells (cs := wishC wish0) Tryd.agg31 rfl (Has.own 0 rfl) rfl rfl) (Res.cell (v := .slice none 0 0) Tryd.one32 rfl (Has.own 1 rfl) rfl) (Res.cell (v := .int .i64 150) Tryd.one35 rfl (Has.own 2 rfl) rfl))
  refine TO.nil ?_
  refine TQ.then_normal ?_
  refine T.seq ?_
  refine T.seq ?_
  refine T.region ?_
  refine TO.rd rfl rfl (rd_fieldAddr Tryd.field31_0 rfl) ?_
  refine TO.rd rfl rfl (rd_fieldAddr Tryd.field31_1 rfl) ?_
  refine TO.rd rfl rfl (rd_fieldAddr Tryd.field31_2 rfl) ?_
  refine TO.rd rfl rfl (rd_fieldAddr Tryd.field28_0 rfl) ?_
  refine TO.rd rfl rfl (rd_fieldAddr Tryd.field31_2 rfl) ?_
  refine TO.rd rfl rfl (rd_fieldAddr Tryd.field28_1 rfl) ?_
  refine TO.rd rfl rfl (rd_fieldAddr Tryd.field31_3 rfl) ?_
  refine TO.rd rfl rfl (rd_fieldAddr Tryd.field31_4 rfl) ?_
  refine TO.rd rfl rfl (rd_fieldAddr Tryd.field31_5 rfl) ?_
  refine TO.rd rfl rfl (rd_fieldAddr Tryd.field29_0 rfl) ?_
  refine TO.rd rfl rfl (rd_fieldAddr Tryd.field31_5 rfl) ?_
  refine TO.rd rfl rfl (rd_fieldAddr Tryd.field29_1 rfl) ?_
  refine TO.rd rfl rfl (rd_builda (cs := [.pointer _, .pointer _, .pointer _, .pointer _, .pointer _, .pointer _, .pointer _, .pointer _]) Tryd.under120 Tryd.size118 Tryd.zero120 rfl rfl) ?_
  refine TO.rd rfl rfl (rd_move (v := .int _ _) rfl) ?_
  refine TO.nil ?_
  refine TQ.then_normal ?_
  refine T.block ?_
  refine T.front4 ?_
  refine T.front1 ?_
  refine T.loop3 [0, 2, 3, 4, 5, 69] (fun (j : Nat) (nums : List Int) (c : Nat) => [(70, .int .i64 (j : Nat))]) (fun (j : Nat) (nums : List Int) (c : Nat) => [own b4 #[.string (str s), .int .i64 ((c : Nat) : Int)] 115, own b1 (NC 8 nums).toArray 31]) (fun (j : Nat) (nums : List Int) (c : Nat) => rdNs s j b2n = some (nums, c) ∧ j ≤ 8) (fun (j : Nat) (nums : List Int) (c : Nat) => 8 - j) (0) ([]) (b2n) (⟨rfl, Nat.zero_le _⟩) (And.intro (rfl) (trivial)) (fun _ _ h => h) fun j nums c g2 hx2 => ?_
  obtain ⟨hns, hj⟩ := hx2
  have hnl : nums.length = j := rdNs_len hns
  refine T.seq ?_
  refine T.region ?_
  refine TO.rd rfl rfl (rd_lss rfl rfl) ?_
  refine TO.nil ?_
  refine TQ.then_normal ?_
  refine T.seq ?_
  refine T.cond rfl (fun h28 => ?_) (fun h28 => ?_)
  · try simp only [decide_eq_true_eq, decide_eq_false_iff_not, Bool.not_eq_true', Bool.not_eq_false', Bool.not_eq_eq_eq_not, Bool.not_true, Bool.not_false, beq_iff_eq, beq_eq_false_iff_ne, bne_iff_ne, bne_eq_false_iff_eq, ne_eq, Int.not_lt, Int.not_le, Decidable.not_not] at h28
    refine T.skip ?_
    refine TQ.then_normal ?_
    refine T.seq ?_
    refine T.block ?_
    refine T.seq ?_
    refine T.region ?_
    refine TO.rd rfl rfl (rd_index_arr j (v := .pointer (some ⟨b1, j, none⟩)) Tryd.under120 Tryd.one118 Tryd.size118 rfl rfl rfl (by omega) (ptr8 (by omega))) ?_
    refine TO.rd rfl rfl (rd_assign (v := .pointer _) rfl) ?_
    refine TO.nil ?_
    refine TQ.then_normal ?_
    refine T.region ?_
    refine TO.rd rfl rfl (rd_move (v := .pointer _) rfl) ?_
    refine TO.rd rfl rfl (rd_move (v := .pointer _) rfl) ?_
    refine TO.handX Tryd.enters66 rfl (c_rd_number _ _ _ hs) rfl rfl Reads0 (fun hp31 => ?_) (fun ⟨v2, c2⟩ hv2 => ?_)
    · refine TQ.block_panic ?_
      refine TQ.then_panic ?_
      refine TQ.then_panic ?_
      refine TQ.block_panic ?_
      refine TQ.then_panic ?_
      have hd : decodeOf s = (wish0, [], 150) := dec4 hm hps (by omega) (by rw [rdW, hb2, Option.bind_some, rdNs_none hns hp31 (by omega)]; rfl)
      refine TQ.front3 ?_
      refine TQ.front2 ?_
      refine TQ.front2 ?_
      exact TQ.panicD Tryd.enters65 (c_dec1_mends _ _ _ _ (by first | rfl | (rw [NC_len (by omega)])) _ _) rfl (none, 0) trivial (by rw [hd]; rfl) (fun S w h => by rw [hd]; exact one_seps nil_row) (res3 Tryd.results30 (Res.cells (cs := wishC wish0) Tryd.agg31 rfl (Has.own 0 rfl) rfl rfl) (Res.cell (v := .slice none 0 0) Tryd.one32 rfl (Has.own 1 rfl) rfl) (Res.cell (v := .int .i64 150) Tryd.one35 rfl (Has.own 2 rfl) rfl))
    refine TO.rd rfl rfl (rd_nilCheck rfl) ?_
    refine TO.front1 ?_
    refine TO.store0 (o := j) (cells' := (NC 8 (nums ++ [v2])).toArray) (v := .int .i64 v2) Tryd.size3 rfl rfl rfl (by exact over_num hnl (by omega)) (by rw [List.size_toArray, NC_len (by omega)]; omega) rfl ?_
    refine TO.nil ?_
    refine TQ.block_normal ?_
    refine TQ.then_normal ?_
    refine T.region ?_
    refine TO.rd rfl rfl (rd_add rfl rfl (w64 (by omega) (by omega))) ?_
    refine TO.rd rfl rfl (rd_move (v := .int _ _) rfl) ?_
    refine TO.nil ?_
    refine TQ.againk (j + 1, nums ++ [v2], c2) ?_ ?_ (And.intro (rfl) (trivial)) (And.intro (rfl) (And.intro (rfl) (And.intro (rfl) (And.intro (rfl) (And.intro (rfl) (And.intro (rfl) (trivial))))))) (fun _ _ h => h.sel (js := [1, 0, 2, 3, 4]) (by decide))
    · exact ⟨by simp only [rdNs, hns, Option.bind_some, hv2], by dsimp only; omega⟩
    · first | omega | (dsimp only; omega)
  try simp only [decide_eq_true_eq, decide_eq_false_iff_not, Bool.not_eq_true', Bool.not_eq_false', Bool.not_eq_eq_eq_not, Bool.not_true, Bool.not_false, beq_iff_eq, beq_eq_false_iff_ne, bne_iff_ne, bne_eq_false_iff_eq, ne_eq, Int.not_lt, Int.not_le, Decidable.not_not] at h28
  refine T.exit ?_
  refine TQ.then_exit ?_
  refine TQ.then_exit ?_
  refine TQ.block_out ?_
  refine TQ.then_normal ?_
  refine T.seq ?_
  refine T.region ?_
  refine TO.rd rfl rfl (rd_move (v := .pointer _) rfl) ?_
  have hj8 : j = 8 := by omega
  have hle2 : c ≤ s.length := rdNs_le hns (rdK_next hb2)
  refine TO.handX Tryd.enters68 rfl (c_rd_digest _ _ _ hs (by first | assumption | omega)) rfl rfl Reads0 (fun hp34 => ?_) (fun ⟨g2, a3⟩ hg2 => ?_)
  · refine TQ.then_panic ?_
    have hd : decodeOf s = (wish0, [], 150) := dec4 hm hps (by omega) (by rw [rdW, hb2, Option.bind_some, ← hj8, hns, Option.bind_some, hp34]; rfl)
    refine TQ.front3 ?_
    refine TQ.front2 ?_
    refine TQ.front2 ?_
    exact TQ.panicD Tryd.enters65 (c_dec1_mends _ _ _ _ (by first | rfl | (rw [NC_len (by omega)])) _ _) rfl (none, 0) trivial (by rw [hd]; rfl) (fun S w h => by rw [hd]; exact one_seps nil_row) (res3 Tryd.results30 (Res.cells (cs := wishC wish0) Tryd.agg31 rfl (Has.own 0 rfl) rfl rfl) (Res.cell (v := .slice none 0 0) Tryd.one32 rfl (Has.own 1 rfl) rfl) (Res.cell (v := .int .i64 150) Tryd.one35 rfl (Has.own 2 rfl) rfl))
  refine TO.rd rfl rfl (rd_fieldAddr Tryd.field31_6 rfl) ?_
  refine TO.front1 ?_
  refine TO.own_eq (cells' := wishC (wishOf nums [])) (by rw [NC8 (by omega)]; rfl) ?_
  refine TO.store0 (cells' := #[.int _ _, .int _ _, .int _ _, .int _ _, .int _ _, .int _ _, .int _ _, .int _ _, .string _]) Tryd.size9 rfl (v := .string _) rfl rfl rfl (Nat.le_of_ble_eq_true rfl) rfl ?_
  refine TO.nil ?_
  refine TQ.then_normal ?_
  refine T.seq ?_
  refine T.seq ?_
  refine T.region ?_
  refine TO.rd rfl rfl (rd_move (v := .pointer _) rfl) ?_
  have hW : rdW s a = some (wishOf nums g2, a3) := by simp only [rdW, hb2, Option.bind_some, ← hj8, hns, hg2]
  refine TO.rd rfl rfl (rd_nilCheck rfl) ?_
  refine TO.rd rfl rfl (rd_fieldAddr Tryd.field115_1 rfl) ?_
  refine TO.rd rfl rfl (rd_load (v := .int _ _) Tryd.one3 rfl (Has.own 1 rfl) rfl) ?_
  refine TO.rd rfl rfl (rd_move (v := .string _) rfl) ?_
  refine TO.rd rfl rfl (rd_lens' Tryd.under9 rfl) ?_
  refine TO.rd rfl rfl (rd_lss rfl rfl) ?_
  refine TO.rd rfl rfl (rd_move (v := .bool _) rfl) ?_
  refine TO.decide (s := 88) rfl (fun h35 => ?_) (fun h35 => ?_)
  · try simp only [decide_eq_true_eq, decide_eq_false_iff_not, Bool.not_eq_true', Bool.not_eq_false', Bool.not_eq_eq_eq_not, Bool.not_true, Bool.not_false, beq_iff_eq, beq_eq_false_iff_ne, bne_iff_ne, bne_eq_false_iff_eq, ne_eq, Int.not_lt, Int.not_le, Decidable.not_not] at h35
    refine TO.guard_false (s := 88) (b' := true) rfl rfl nofun ?_
    refine TO.guard_false (s := 88) (b' := true) rfl rfl nofun ?_
    refine TO.guard_false (s := 88) (b' := true) rfl rfl nofun ?_
    refine TO.guard_false (s := 88) (b' := true) rfl rfl nofun ?_
    refine TO.rd rfl rfl (rd_pick_true (v := .bool _) rfl rfl) ?_
    refine TO.nil ?_
    refine TQ.then_normal ?_
    refine T.cond_true rfl ?_
    refine T.region ?_
    refine TO.rd rfl rfl (rd_build (cs := []) Tryd.places112 Tryd.zero112 rfl rfl) ?_
    refine TO.rd rfl rfl (rd_makeIface' Tryd.notif112 rfl) ?_
    refine TO.panic rfl ?_
    refine TQ.then_panic ?_
    have hd : decodeOf s = (wish0, [], 150) := by rw [dec5 hm hwt hps (by omega) hW, if_pos (.inl (by omega))]
    refine TQ.front4 ?_
    refine TQ.front3 ?_
    refine TQ.front2 ?_
    exact TQ.panicD Tryd.enters65 (c_dec1_mends _ _ _ _ (by first | rfl | (rw [NC_len (by omega)])) _ _) rfl (none, 0) trivial (by rw [hd]; rfl) (fun S w h => by rw [hd]; exact one_seps nil_row) (res3 Tryd.results30 (Res.cells (cs := wishC wish0) Tryd.agg31 rfl (Has.own 0 rfl) rfl rfl) (Res.cell (v := .slice none 0 0) Tryd.one32 rfl (Has.own 1 rfl) rfl) (Res.cell (v := .int .i64 150) Tryd.one35 rfl (Has.own 2 rfl) rfl))
  try simp only [decide_eq_true_eq, decide_eq_false_iff_not, Bool.not_eq_true', Bool.not_eq_false', Bool.not_eq_eq_eq_not, Bool.not_true, Bool.not_false, beq_iff_eq, beq_eq_false_iff_ne, bne_iff_ne, bne_eq_false_iff_eq, ne_eq, Int.not_lt, Int.not_le, Decidable.not_not] at h35
  refine TO.guard_true (s := 88) rfl rfl ?_
  refine TO.rd rfl rfl (rd_load_agg (cs := #[.int _ _, .int _ _, .int _ _, .int _ _, .int _ _, .int _ _, .int _ _, .int _ _, .string _]) Tryd.agg31 rfl (Has.own 0 rfl) rfl rfl) ?_
  refine TO.guard_true (s := 88) rfl rfl ?_
  refine TO.rd rfl rfl (rd_load (v := .slice _ _ _) Tryd.one32 rfl (Has.own 2 rfl) rfl) ?_
  refine TO.guard_true (s := 88) rfl rfl ?_
  refine TO.fn Tryd.enters14 (c_wish_Formed (wishOf nums g2) _ _ _ l (by first | rfl | simp | omega) (by first | omega | assumption | simp)) rfl (ReadsC (row_slc' (e := proxyL) (xs := l) (fun _ => rfl) (hlk.symm) (rfl) (Has.own 3 rfl)) Reads0) ?_
  refine TO.guard_true (s := 88) rfl rfl ?_
  refine TO.rd rfl rfl (rd_not rfl) ?_
  refine TO.rd rfl rfl (rd_pick_false (v := .bool _) rfl rfl) ?_
  refine TO.nil ?_
  refine TQ.then_normal ?_
  refine T.cond rfl (fun h36 => ?_) (fun h36 => ?_)
  · try simp only [decide_eq_true_eq, decide_eq_false_iff_not, Bool.not_eq_true', Bool.not_eq_false', Bool.not_eq_eq_eq_not, Bool.not_true, Bool.not_false, beq_iff_eq, beq_eq_false_iff_ne, bne_iff_ne, bne_eq_false_iff_eq, ne_eq, Int.not_lt, Int.not_le, Decidable.not_not] at h36
    refine T.region ?_
    refine TO.rd rfl rfl (rd_build (cs := []) Tryd.places112 Tryd.zero112 rfl rfl) ?_
    refine TO.rd rfl rfl (rd_makeIface' Tryd.notif112 rfl) ?_
    refine TO.panic rfl ?_
    refine TQ.then_panic ?_
    have hd : decodeOf s = (wish0, [], 150) := by rw [dec5 hm hwt hps (by omega) hW, if_pos (.inr h36)]
    refine TQ.front4 ?_
    refine TQ.front3 ?_
    refine TQ.front2 ?_
    exact TQ.panicD Tryd.enters65 (c_dec1_mends _ _ _ _ (by first | rfl | (rw [NC_len (by omega)])) _ _) rfl (none, 0) trivial (by rw [hd]; rfl) (fun S w h => by rw [hd]; exact one_seps nil_row) (res3 Tryd.results30 (Res.cells (cs := wishC wish0) Tryd.agg31 rfl (Has.own 0 rfl) rfl rfl) (Res.cell (v := .slice none 0 0) Tryd.one32 rfl (Has.own 1 rfl) rfl) (Res.cell (v := .int .i64 150) Tryd.one35 rfl (Has.own 2 rfl) rfl))
  try simp only [decide_eq_true_eq, decide_eq_false_iff_not, Bool.not_eq_true', Bool.not_eq_false', Bool.not_eq_eq_eq_not, Bool.not_true, Bool.not_false, beq_iff_eq, beq_eq_false_iff_ne, bne_iff_ne, bne_eq_false_iff_eq, ne_eq, Int.not_lt, Int.not_le, Decidable.not_not] at h36
  refine T.skip ?_
  refine TQ.then_normal ?_
  refine T.seq ?_
  refine T.drawq Tryd.mixes 3 [(96, 0), (97, 1)] [0, 0, 1, 7, 15] (by kernel_rfl) ?_
  refine DQ.rd rfl rfl (fun _ => rd_load_agg (cs := #[.int _ _, .int _ _, .int _ _, .int _ _, .int _ _, .int _ _, .int _ _, .int _ _, .string _]) Tryd.agg31 rfl (Has.own 0 rfl) rfl rfl) ?_
  refine DQ.rd rfl rfl (fun _ => rd_load (v := .slice _ _ _) Tryd.one32 rfl (Has.own 2 rfl) rfl) ?_
  refine DQ.self (jj := 0) (cs := wishL (wishOf nums g2)) rfl Tryd.size31 (fun _ => rfl) (fun _ => rfl) rfl rfl rfl ?_
  refine DQ.done rfl ?_
  refine TO.front2 ?_
  refine TO.store0 (cells' := #[.slice _ _ _]) Tryd.size32 rfl (v := .slice _ _ _) rfl rfl rfl (Nat.le_of_ble_eq_true rfl) rfl ?_
  refine TO.front4 ?_
  refine TO.store0 (cells' := #[.int _ _]) Tryd.size35 rfl (v := .int _ _) rfl rfl rfl (Nat.le_of_ble_eq_true rfl) rfl ?_
  refine TO.nil ?_
  refine TQ.then_normal ?_
  refine T.ret ?_
  have hd : decodeOf s = (wishOf nums g2, l, 0) := by rw [dec5 hm hwt hps (by omega) hW, if_neg (by rintro (h' | h') <;> first | omega | simp_all)]
  refine TQ.doneD Tryd.enters65 (c_dec1_calm _ _ _) ((A, cap)) (trivial) ?_ (fun _ _ h => by rw [hd]; exact seps_row 4 rfl hlk.symm rfl h) (res3 Tryd.results30 (Res.cells (cs := #[.int _ _, .int _ _, .int _ _, .int _ _, .int _ _, .int _ _, .int _ _, .int _ _, .string _]) Tryd.agg31 rfl (Has.own 2 rfl) rfl rfl) (Res.cell (v := .slice _ _ _) Tryd.one32 rfl (Has.own 1 rfl) rfl) (Res.cell (v := .int _ _) Tryd.one35 rfl (Has.own 0 rfl) rfl)) _ (.inl rfl)
  rw [hd, ← hlk]; rfl
end Go.Proofs
end
section
/- Facts on the types and functions that the walks of this seat use. Written by a program of this session. -/
set_option linter.unusedVariables false
set_option linter.unusedSimpArgs false
set_option maxRecDepth 100000
set_option maxHeartbeats 800000
namespace Go.Proofs
open Go.TL
attribute [local irreducible] Go.TL.T Go.TL.TO Go.TL.TQ
theorem Tryd.trow9 : TyRow Tryd.prog 9 1 16 := tyRow_of (by kernel_rfl)
theorem Tryd.zero9 : TyZero Tryd.prog 9 (.string ⟨#[]⟩) := fun w => by kernel_rfl
end Go.Proofs
end
section
/- Facts on the types and functions that the walks of this seat use. Written by a program of this session. -/
set_option linter.unusedVariables false
set_option linter.unusedSimpArgs false
set_option maxRecDepth 100000
set_option maxHeartbeats 800000
namespace Go.Proofs
open Go.TL
attribute [local irreducible] Go.TL.T Go.TL.TO Go.TL.TQ
theorem Tryd.enters19 : Enters Tryd.prog 19 := fun args w => by kernel_rfl
theorem Tryd.enters20 : Enters Tryd.prog 20 := fun args w => by kernel_rfl
theorem Tryd.enters69 : Enters Tryd.prog 69 := fun args w => by kernel_rfl
theorem Tryd.enters70 : Enters Tryd.prog 70 := fun args w => by kernel_rfl
theorem Tryd.enters71 : Enters Tryd.prog 71 := fun args w => by kernel_rfl
end Go.Proofs
end
section
/- Facts on the types and functions that the walks of this seat use. Written by a program of this session. -/
set_option linter.unusedVariables false
set_option linter.unusedSimpArgs false
set_option maxRecDepth 100000
set_option maxHeartbeats 800000
namespace Go.Proofs
open Go.TL
attribute [local irreducible] Go.TL.T Go.TL.TO Go.TL.TQ
theorem Tryd.enters35 : Enters Tryd.prog 35 := fun args w => by kernel_rfl
end Go.Proofs
end
section
/- Facts on the types and functions that the walks of this seat use. Written by a program of this session. -/
set_option linter.unusedVariables false
set_option linter.unusedSimpArgs false
set_option maxRecDepth 100000
set_option maxHeartbeats 800000
namespace Go.Proofs
open Go.TL
attribute [local irreducible] Go.TL.T Go.TL.TO Go.TL.TQ
theorem Tryd.isome126 : (Tryd.prog.underlying 126).isSome = true := by kernel_rfl
theorem Tryd.one126 : TyOne Tryd.prog 126 := ⟨fun w => by kernel_rfl, fun w => by kernel_rfl⟩
theorem Tryd.size126 : ∀ w, (sizeOf 126).run Tryd.prog w = .ok 1 w := fun w => by kernel_rfl
theorem Tryd.under127 : Tryd.prog.underlying 127 = some (.slice 126) := by kernel_rfl
theorem Tryd.zero126 : TyZero Tryd.prog 126 (.int .u32 0) := fun w => by kernel_rfl
theorem Tryd.enters49 : Enters Tryd.prog 49 := fun args w => by kernel_rfl
theorem Tryd.enters50 : Enters Tryd.prog 50 := fun args w => by kernel_rfl
theorem Tryd.enters79 : Enters Tryd.prog 79 := fun args w => by kernel_rfl
theorem Tryd.enters80 : Enters Tryd.prog 80 := fun args w => by kernel_rfl
theorem Tryd.enters90 : Enters Tryd.prog 90 := fun args w => by kernel_rfl
end Go.Proofs
end
section
/- Facts on the types and functions that the walks of this seat use. Written by a program of this session. -/
set_option linter.unusedVariables false
set_option linter.unusedSimpArgs false
set_option maxRecDepth 100000
set_option maxHeartbeats 800000
namespace Go.Proofs
open Go.TL
attribute [local irreducible] Go.TL.T Go.TL.TO Go.TL.TQ
theorem Tryd.one5 : TyOne Tryd.prog 5 := ⟨fun w => by kernel_rfl, fun w => by kernel_rfl⟩
theorem Tryd.trow126 : TyRow Tryd.prog 126 1 4 := tyRow_of (by kernel_rfl)
theorem Tryd.under126 : Tryd.prog.underlying 126 = some (.int .u32) := by kernel_rfl
theorem Tryd.enters93 : Enters Tryd.prog 93 := fun args w => by kernel_rfl
theorem Tryd.enters94 : Enters Tryd.prog 94 := fun args w => by kernel_rfl
end Go.Proofs
end
section
/- Facts on the types and functions that the walks of this seat use. Written by a program of this session. -/
set_option linter.unusedVariables false
set_option linter.unusedSimpArgs false
set_option maxRecDepth 100000
set_option maxHeartbeats 800000
namespace Go.Proofs
open Go.TL
attribute [local irreducible] Go.TL.T Go.TL.TO Go.TL.TQ
end Go.Proofs
end
section
/- Walks: what functions of the program do, by contract. Written by a program of this session. -/
set_option linter.unusedVariables false
set_option linter.unusedSimpArgs false
set_option maxRecDepth 100000
set_option maxHeartbeats 800000
namespace Go.Proofs
open Go.TL
attribute [local irreducible] Go.TL.T Go.TL.TO Go.TL.TQ
/- dialtone/dialtoneref02.rotated -/
theorem c_ref02_rotated (x : UInt32) (n : Nat) (h0 : 0 < n) (h : n < 32) : Cv Tryd.prog 93 #[.int .u32 x.toNat, .int .i64 (n : Nat)] [] (.int .u32 (rotr x n).toNat) := by
  refine Ctr.intro Tryd.func93 rfl Tryd.ntmps93 (Nat.le_of_ble_eq_true rfl) fun S0 w0 => ?_
  refine T.seq ?_
  refine T.region ?_
  refine TO.rd rfl rfl (rd_assign (v := .int _ _) rfl) ?_
  refine TO.nil ?_
  refine TQ.then_normal ?_
  refine T.seq ?_
  refine T.drawq Tryd.mixes 7 [(5, 0), (6, 1), (7, 2), (8, 3), (9, 4), (10, 5), (11, 6)] [0, 0, 3, 0, 0, 16, 56, 127, 255] (by kernel_rfl) ?_
  refine DQ.rd rfl rfl (fun _ => rd_move (v := .int _ _) rfl) ?_
  refine DQ.rd rfl rfl (fun _ => rd_move (v := .int _ _) rfl) ?_
  refine DQ.rd rfl rfl (fun _ => rd_shr32 (k := n) rfl rfl (rfl) (h)) ?_
  refine DQ.rd rfl rfl (fun _ => rd_move (v := .int _ _) rfl) ?_
  refine DQ.rd rfl rfl (fun _ => rd_move (v := .int _ _) rfl) ?_
  refine DQ.rd rfl rfl (fun _ => rd_sub rfl rfl (w64 (by omega) (by omega))) ?_
  refine DQ.rd rfl rfl (fun _ => rd_shl32 (k := (32 - n)) rfl rfl (by omega) (by omega)) ?_
  refine DQ.done rfl ?_
  refine TO.rd rfl rfl (rd_or32 rfl rfl) ?_
  refine TO.rd rfl rfl (rd_assign (v := .int _ _) rfl) ?_
  refine TO.nil ?_
  refine TQ.then_normal ?_
  refine T.ret ?_
  refine TQ.value ?_ (res1 Tryd.results93 (Res.tmp (v := .int _ _) rfl)) _ (.inl rfl)
  rfl
/- dialtone/dialtoneref02.constants -/
theorem c_ref02_constants  : Ctr Tryd.prog 94 #[] [] [] (γ := Option Addr × Nat) (fun x => True) (fun x => .slice x.1 64 x.2) (fun x => [row 126 1 x.1 64 x.2 (shaK.flatMap eW)]) := by
  refine Ctr.intro Tryd.func94 rfl Tryd.ntmps94 (Nat.le_of_ble_eq_true rfl) fun S0 w0 => ?_
  refine T.seq ?_
  refine T.region ?_
  refine TO.rd rfl rfl (rd_assign (v := .slice _ _ _) rfl) ?_
  refine TO.nil ?_
  refine TQ.then_normal ?_
  refine T.seq ?_
  refine T.region ?_
  refine TO.buildS (cs := [.int .u32 1116352408, .int .u32 1899447441, .int .u32 3049323471, .int .u32 3921009573, .int .u32 961987163, .int .u32 1508970993, .int .u32 2453635748, .int .u32 2870763221, .int .u32 3624381080, .int .u32 310598401, .int .u32 607225278, .int .u32 1426881987, .int .u32 1925078388, .int .u32 2162078206, .int .u32 2614888103, .int .u32 3248222580, .int .u32 3835390401, .int .u32 4022224774, .int .u32 264347078, .int .u32 604807628, .int .u32 770255983, .int .u32 1249150122, .int .u32 1555081692, .int .u32 1996064986, .int .u32 2554220882, .int .u32 2821834349, .int .u32 2952996808, .int .u32 3210313671, .int .u32 3336571891, .int .u32 3584528711, .int .u32 113926993, .int .u32 338241895, .int .u32 666307205, .int .u32 773529912, .int .u32 1294757372, .int .u32 1396182291, .int .u32 1695183700, .int .u32 1986661051, .int .u32 2177026350, .int .u32 2456956037, .int .u32 2730485921, .int .u32 2820302411, .int .u32 3259730800, .int .u32 3345764771, .int .u32 3516065817, .int .u32 3600352804, .int .u32 4094571909, .int .u32 275423344, .int .u32 430227734, .int .u32 506948616, .int .u32 659060556, .int .u32 883997877, .int .u32 958139571, .int .u32 1322822218, .int .u32 1537002063, .int .u32 1747873779, .int .u32 1955562222, .int .u32 2024104815, .int .u32 2227730452, .int .u32 2361852424, .int .u32 2428436474, .int .u32 2756734187, .int .u32 3204031479, .int .u32 3329325298]) Tryd.under127 Tryd.size126 Tryd.zero126 (Nat.le_of_ble_eq_true rfl) (by kernel_rfl) (fun b1 => ?_)
  refine TO.rd rfl rfl (rd_assign (v := .slice _ _ _) rfl) ?_
  refine TO.nil ?_
  refine TQ.then_normal ?_
  refine T.ret ?_
  refine TQ.done ((some ⟨b1, 0, none⟩, 64)) (trivial) ?_ (fun _ _ => seps_lit 0 1 64 rfl rfl (by decide) (by kernel_rfl)) (res1 Tryd.results94 (Res.tmp (v := .slice _ _ _) rfl)) _ (.inl rfl)
  rfl
/- dialtone/dialtoneref02.extended -/
theorem c_ref02_extended (s : Bytes) (hs : s.length ≤ 1000000000000) : Ctr Tryd.prog 79 #[.string (str s)] [] [] (γ := Option Addr × Nat) (fun x => (pad s).length ≤ x.2) (fun x => .slice x.1 (pad s).length x.2) (fun x => [row 5 1 x.1 (pad s).length x.2 (bytesC (pad s))]) := by
  refine Ctr.intro Tryd.func79 rfl Tryd.ntmps79 (Nat.le_of_ble_eq_true rfl) fun S0 w0 => ?_
  refine T.seq ?_
  refine T.region ?_
  refine TO.rd rfl rfl (rd_assign (v := .slice none 0 0) rfl) ?_
  refine TO.newrow 5 1 ?_
  refine TO.nil ?_
  refine TQ.then_normal ?_
  refine T.seq ?_
  refine T.region ?_
  refine TO.rd rfl rfl (rd_assign (v := .slice none 0 0) rfl) ?_
  refine TO.newrow 5 1 ?_
  refine TO.nil ?_
  refine TQ.then_normal ?_
  refine T.seq ?_
  refine T.seq ?_
  refine T.region ?_
  refine TO.rd rfl rfl (rd_assign (v := .int _ _) rfl) ?_
  refine TO.nil ?_
  refine TQ.then_normal ?_
  refine T.block ?_
  refine T.loop3 [0] (fun (A : Option Addr) (cap : Nat) (k : Nat) => [(3, .slice A k cap), (4, .int .i64 (k : Nat))]) (fun (A : Option Addr) (cap : Nat) (k : Nat) => [row 5 1 A k cap (bytesC (s.take k))]) (fun (A : Option Addr) (cap : Nat) (k : Nat) => k ≤ s.length) (fun (A : Option Addr) (cap : Nat) (k : Nat) => s.length - k) (none) (0) (0) (Nat.zero_le _) (And.intro (rfl) (And.intro (rfl) (trivial))) (fun _ _ h => h) fun A cap k g0 hx0 => ?_
  refine T.seq ?_
  refine T.seq ?_
  refine T.region ?_
  refine TO.rd rfl rfl (rd_move (v := .int _ _) rfl) ?_
  refine TO.rd rfl rfl (rd_move (v := .string _) rfl) ?_
  refine TO.rd rfl rfl (rd_lens' Tryd.under9 rfl) ?_
  refine TO.rd rfl rfl (rd_lss rfl rfl) ?_
  refine TO.nil ?_
  refine TQ.then_normal ?_
  refine T.cond rfl (fun h3 => ?_) (fun h3 => ?_)
  · try simp only [decide_eq_true_eq, decide_eq_false_iff_not, Bool.not_eq_true', Bool.not_eq_false', Bool.not_eq_eq_eq_not, Bool.not_true, Bool.not_false, beq_iff_eq, beq_eq_false_iff_ne, bne_iff_ne, bne_eq_false_iff_eq, ne_eq, Int.not_lt, Int.not_le, Decidable.not_not] at h3
    refine T.skip ?_
    refine TQ.then_normal ?_
    refine T.seq ?_
    refine T.block ?_
    refine T.region ?_
    refine TO.rd rfl rfl (rd_move (v := .slice _ _ _) rfl) ?_
    refine TO.rd rfl rfl (rd_move (v := .string _) rfl) ?_
    refine TO.rd rfl rfl (rd_move (v := .int _ _) rfl) ?_
    refine TO.rd rfl rfl (rd_idxs Tryd.under9 rfl rfl rfl (by omega)) ?_
    refine TO.buildS (cs := [.int _ _]) Tryd.under71 Tryd.size5 Tryd.zero5 (Nat.le_of_ble_eq_true rfl) rfl (fun b4 => ?_)
    refine TO.front1 ?_
    refine TO.app Tryd.trow5 Tryd.under71 (.inl ⟨_, Tryd.under71⟩) rfl rfl (Src.own1 1 rfl rfl) rfl rfl (by omega) (fun A5 c6 hc7 => ?_)
    refine TO.row_eq (cs' := bytesC (s.take (k + 1))) rfl (by rw [← take_snoc (by omega), bytesC_append]; rfl) ?_
    refine TO.rd rfl rfl (rd_assign (v := .slice _ _ _) rfl) ?_
    refine TO.nil ?_
    refine TQ.block_normal ?_
    refine TQ.then_normal ?_
    refine T.region ?_
    refine TO.rd rfl rfl (rd_move (v := .int _ _) rfl) ?_
    refine TO.rd rfl rfl (rd_add rfl rfl (w64 (by omega) (by omega))) ?_
    refine TO.rd rfl rfl (rd_assign (v := .int _ _) rfl) ?_
    refine TO.nil ?_
    refine TQ.againk (A5, c6, k + 1) ?_ ?_ (And.intro (rfl) (And.intro (rfl) (trivial))) (And.intro (rfl) (trivial)) (fun _ _ h => h.sel (js := [0, 2]) (by decide))
    · first | omega | (dsimp only; omega)
    · first | omega | (dsimp only; omega)
  try simp only [decide_eq_true_eq, decide_eq_false_iff_not, Bool.not_eq_true', Bool.not_eq_false', Bool.not_eq_eq_eq_not, Bool.not_true, Bool.not_false, beq_iff_eq, beq_eq_false_iff_ne, bne_iff_ne, bne_eq_false_iff_eq, ne_eq, Int.not_lt, Int.not_le, Decidable.not_not] at h3
  refine T.exit ?_
  refine TQ.then_exit ?_
  refine TQ.then_exit ?_
  refine TQ.block_out ?_
  refine TQ.then_normal ?_
  refine T.seq ?_
  refine T.region ?_
  refine TO.rd rfl rfl (rd_move (v := .slice _ _ _) rfl) ?_
  refine TO.buildS (cs := [.int _ _]) Tryd.under71 Tryd.size5 Tryd.zero5 (Nat.le_of_ble_eq_true rfl) rfl (fun b8 => ?_)
  refine TO.front1 ?_
  refine TO.app Tryd.trow5 Tryd.under71 (.inl ⟨_, Tryd.under71⟩) rfl rfl (Src.own1 1 rfl rfl) rfl rfl (by omega) (fun A9 c10 hc11 => ?_)
  refine TO.row_eq (cs' := bytesC (s ++ [128] ++ List.replicate 0 0)) rfl (by rw [List.take_of_length_le (by omega)]; simp [bytesC_append]; rfl) ?_
  refine TO.rd rfl rfl (rd_assign (v := .slice _ _ _) rfl) ?_
  refine TO.nil ?_
  refine TQ.then_normal ?_
  refine T.seq ?_
  refine T.block ?_
  refine T.loop4 [0] (fun (A : Option Addr) (cap : Nat) (m : Nat) (j : Nat) => [(3, .slice A m cap)]) (fun (A : Option Addr) (cap : Nat) (m : Nat) (j : Nat) => [row 5 1 A m cap (bytesC (s ++ [128] ++ List.replicate j 0))]) (fun (A : Option Addr) (cap : Nat) (m : Nat) (j : Nat) => m = s.length + 1 + j ∧ j ≤ zeros s.length ∧ m ≤ cap) (fun (A : Option Addr) (cap : Nat) (m : Nat) (j : Nat) => zeros s.length - j) (A9) (c10) (k + 1) (0) (⟨by omega, Nat.zero_le _, by omega⟩) (And.intro (rfl) (trivial)) (fun _ _ h => h) fun A cap m j g1 hx1 => ?_
  obtain ⟨hm, hj, hmc⟩ := hx1
  have hz63 : zeros s.length ≤ 63 := by simp only [zeros]; omega
  refine T.seq ?_
  refine T.seq ?_
  refine T.region ?_
  refine TO.rd rfl rfl (rd_move (v := .slice _ _ _) rfl) ?_
  refine TO.rd rfl rfl (rd_lensl Tryd.under71 rfl) ?_
  refine TO.rd rfl rfl (rd_remn (m := 64) rfl rfl rfl (by decide)) ?_
  refine TO.rd rfl rfl (rd_neq rfl rfl) ?_
  refine TO.nil ?_
  refine TQ.then_normal ?_
  refine T.cond rfl (fun h12 => ?_) (fun h12 => ?_)
  · try simp only [decide_eq_true_eq, decide_eq_false_iff_not, Bool.not_eq_true', Bool.not_eq_false', Bool.not_eq_eq_eq_not, Bool.not_true, Bool.not_false, beq_iff_eq, beq_eq_false_iff_ne, bne_iff_ne, bne_eq_false_iff_eq, ne_eq, Int.not_lt, Int.not_le, Decidable.not_not] at h12
    refine T.skip ?_
    refine TQ.then_normal ?_
    refine T.block ?_
    refine T.region ?_
    refine TO.rd rfl rfl (rd_move (v := .slice _ _ _) rfl) ?_
    refine TO.buildS (cs := [.int _ _]) Tryd.under71 Tryd.size5 Tryd.zero5 (Nat.le_of_ble_eq_true rfl) rfl (fun b13 => ?_)
    refine TO.front1 ?_
    refine TO.app Tryd.trow5 Tryd.under71 (.inl ⟨_, Tryd.under71⟩) rfl rfl (Src.own1 1 rfl rfl) rfl rfl (by omega) (fun A14 c15 hc16 => ?_)
    refine TO.row_eq (cs' := bytesC (s ++ [128] ++ List.replicate (j + 1) 0)) rfl (by rw [List.replicate_succ', ← List.append_assoc]; exact (bytesC_append (s ++ [128] ++ List.replicate j 0) [0]).symm) ?_
    refine TO.rd rfl rfl (rd_assign (v := .slice _ _ _) rfl) ?_
    refine TO.nil ?_
    refine TQ.block_normal ?_
    refine TQ.againk (A14, c15, m + 1, j + 1) ?_ ?_ (And.intro (rfl) (trivial)) (And.intro (rfl) (trivial)) (fun _ _ h => h.sel (js := [0, 2, 3]) (by decide))
    · refine ⟨?_, ?_, ?_⟩ <;> dsimp only <;> (try simp only [zeros] at *) <;> omega
    · (try simp only [zeros] at *); omega
  try simp only [decide_eq_true_eq, decide_eq_false_iff_not, Bool.not_eq_true', Bool.not_eq_false', Bool.not_eq_eq_eq_not, Bool.not_true, Bool.not_false, beq_iff_eq, beq_eq_false_iff_ne, bne_iff_ne, bne_eq_false_iff_eq, ne_eq, Int.not_lt, Int.not_le, Decidable.not_not] at h12
  refine T.exit ?_
  refine TQ.then_exit ?_
  refine TQ.then_exit ?_
  refine TQ.block_out ?_
  refine TQ.then_normal ?_
  refine T.seq ?_
  refine T.seq ?_
  refine T.region ?_
  refine TO.rd rfl rfl (rd_assign (v := .int _ _) rfl) ?_
  refine TO.nil ?_
  refine TQ.then_normal ?_
  refine T.block ?_
  refine T.loop5 [0] (fun (A : Option Addr) (cap : Nat) (m : Nat) (l : Bytes) (i : Nat) => [(3, .slice A m cap), (5, .int .i64 ((i : Int) - 1))]) (fun (A : Option Addr) (cap : Nat) (m : Nat) (l : Bytes) (i : Nat) => [row 5 1 A m cap (bytesC l)]) (fun (A : Option Addr) (cap : Nat) (m : Nat) (l : Bytes) (i : Nat) => l ++ len8 s.length i = pad s ∧ m = l.length ∧ i ≤ 8 ∧ m ≤ cap) (fun (A : Option Addr) (cap : Nat) (m : Nat) (l : Bytes) (i : Nat) => i) (A) (cap) (m) (s ++ [128] ++ List.replicate j 0) (8) (⟨by rw [pad, show zeros s.length = j by simp only [zeros] at *; omega], by simp; omega, by omega, by omega⟩) (And.intro (rfl) (And.intro (rfl) (trivial))) (fun _ _ h => h) fun A cap m l i g2 hx2 => ?_
  obtain ⟨hl, hml, hi, hmc⟩ := hx2
  have hm2 : m ≤ s.length + 72 := by
    have := congrArg List.length hl
    simp only [pad, List.length_append, len8_len, List.length_replicate, List.length_cons, List.length_nil] at this
    omega
  refine T.seq ?_
  refine T.seq ?_
  refine T.region ?_
  refine TO.rd rfl rfl (rd_move (v := .int _ _) rfl) ?_
  refine TO.rd rfl rfl (rd_geq rfl rfl) ?_
  refine TO.nil ?_
  refine TQ.then_normal ?_
  refine T.cond_ft rfl (fun h17 => ?_) (fun h17 => ?_)
  · try simp only [decide_eq_true_eq, decide_eq_false_iff_not, Bool.not_eq_true', Bool.not_eq_false', Bool.not_eq_eq_eq_not, Bool.not_true, Bool.not_false, beq_iff_eq, beq_eq_false_iff_ne, bne_iff_ne, bne_eq_false_iff_eq, ne_eq, Int.not_lt, Int.not_le, Decidable.not_not] at h17
    refine T.exit ?_
    refine TQ.then_exit ?_
    refine TQ.then_exit ?_
    refine TQ.block_out ?_
    refine TQ.then_normal ?_
    refine T.seq ?_
    refine T.region ?_
    refine TO.rd rfl rfl (rd_move (v := .slice _ _ _) rfl) ?_
    refine TO.rd rfl rfl (rd_assign (v := .slice _ _ _) rfl) ?_
    refine TO.nil ?_
    refine TQ.then_normal ?_
    refine T.ret ?_
    refine TQ.done ((A, cap)) (by rw [← hl, show i = 0 by omega]; simp only [len8, List.append_nil]; omega) ?_ (fun _ _ => seps_row 0 rfl (by rw [← hl, show i = 0 by omega]; simpa [len8] using hml) (by rw [← hl, show i = 0 by omega]; simp [len8])) (res1 Tryd.results79 (Res.tmp (v := .slice _ _ _) rfl)) _ (.inl rfl)
    rw [← hl, show i = 0 by omega]; simp [len8, hml]
  try simp only [decide_eq_true_eq, decide_eq_false_iff_not, Bool.not_eq_true', Bool.not_eq_false', Bool.not_eq_eq_eq_not, Bool.not_true, Bool.not_false, beq_iff_eq, beq_eq_false_iff_ne, bne_iff_ne, bne_eq_false_iff_eq, ne_eq, Int.not_lt, Int.not_le, Decidable.not_not] at h17
  refine T.skip ?_
  refine TQ.then_normal ?_
  refine T.seq ?_
  refine T.block ?_
  refine T.region ?_
  refine TO.rd rfl rfl (rd_move (v := .slice _ _ _) rfl) ?_
  refine TO.rd rfl rfl (rd_move (v := .string _) rfl) ?_
  refine TO.rd rfl rfl (rd_lens' Tryd.under9 rfl) ?_
  refine TO.rd rfl rfl (rd_mul rfl rfl (w64 (by omega) (by omega))) ?_
  refine TO.rd rfl rfl (rd_move (v := .int _ _) rfl) ?_
  refine TO.rd rfl rfl (rd_mul rfl rfl (w64 (by omega) (by omega))) ?_
  refine TO.rd rfl rfl (rd_shr rfl rfl (by omega) (fdiv_pow (a := 8 * s.length) (q := 8 * (i - 1)) (by omega) (by omega))) ?_
  refine TO.rd rfl rfl (rd_convert Tryd.isome3 Tryd.under5 rfl (wrap_u8 _)) ?_
  refine TO.buildS (cs := [.int _ _]) Tryd.under71 Tryd.size5 Tryd.zero5 (Nat.le_of_ble_eq_true rfl) rfl (fun b18 => ?_)
  refine TO.front1 ?_
  refine TO.app Tryd.trow5 Tryd.under71 (.inl ⟨_, Tryd.under71⟩) rfl rfl (Src.own1 1 rfl rfl) rfl rfl (by omega) (fun A19 c20 hc21 => ?_)
  refine TO.row_eq (cs' := bytesC (l ++ [UInt8.ofNat (8 * s.length / 2 ^ (8 * (i - 1)))])) rfl (by rw [bytesC_append]; simp [bytesC, UInt8.toNat_ofNat']) ?_
  refine TO.rd rfl rfl (rd_assign (v := .slice _ _ _) rfl) ?_
  refine TO.nil ?_
  refine TQ.block_normal ?_
  refine TQ.then_normal ?_
  refine T.region ?_
  refine TO.rd rfl rfl (rd_move (v := .int _ _) rfl) ?_
  refine TO.rd rfl rfl (rd_sub rfl rfl (w64 (by omega) (by omega))) ?_
  refine TO.rd rfl rfl (rd_assign (v := .int _ _) rfl) ?_
  refine TO.nil ?_
  refine TQ.againk (A19, c20, m + 1, l ++ [UInt8.ofNat (8 * s.length / 2 ^ (8 * (i - 1)))], i - 1) ?_ ?_ (And.intro (rfl) (And.intro (congrArg (Value.int .i64) (by first | omega | (dsimp only; omega))) (trivial))) (And.intro (rfl) (trivial)) (fun _ _ h => h.sel (js := [0, 2, 3]) (by decide))
  · refine ⟨?_, by simp; omega, by dsimp only; omega, by dsimp only; omega⟩
    rw [← hl]
    obtain ⟨q, rfl⟩ : ∃ q, i = q + 1 := ⟨i - 1, by omega⟩
    simp [len8_succ]
  · first | omega | (dsimp only; omega)
end Go.Proofs
end
section
/- Walks: what functions of the program do, by contract. Written by a program of this session. -/
set_option linter.unusedVariables false
set_option linter.unusedSimpArgs false
set_option maxRecDepth 100000
set_option maxHeartbeats 800000
namespace Go.Proofs
open Go.TL
attribute [local irreducible] Go.TL.T Go.TL.TO Go.TL.TQ
/- dialtone/dialtoneref02.block -/
theorem c_ref02_block (A : Option Addr) (cap n : Nat) (l : List UInt32) (hn : n = l.length) (B : Option Addr) (capb m : Nat) (b : List UInt8) (hm : m = b.length) (h : H8) (hh : l = h.l) (hb : b.length = 64) : Ctr Tryd.prog 80 #[.slice A n cap, .slice B m capb] [slc eW 1 A l, slc eByte 1 B b] [] (γ := Option Addr × Nat) (fun x => True) (fun x => .slice x.1 8 x.2) (fun x => [row 126 1 x.1 8 x.2 ((shaBlock h b).l.flatMap eW)]) := by
  subst hn hm hh
  have hl8 : h.l.length = 8 := rfl
  refine Ctr.intro Tryd.func80 rfl Tryd.ntmps80 (Nat.le_of_ble_eq_true rfl) fun S0 w0 => ?_
  refine T.seq ?_
  refine T.region ?_
  refine TO.rd rfl rfl (rd_assign (v := .slice none 0 0) rfl) ?_
  refine TO.newrow 126 1 ?_
  refine TO.nil ?_
  refine TQ.then_normal ?_
  refine T.seq ?_
  refine T.region ?_
  refine TO.rd rfl rfl (rd_assign (v := .slice none 0 0) rfl) ?_
  refine TO.newrow 126 1 ?_
  refine TO.nil ?_
  refine TQ.then_normal ?_
  refine T.seq ?_
  refine T.seq ?_
  refine T.region ?_
  refine TO.rd rfl rfl (rd_assign (v := .int _ _) rfl) ?_
  refine TO.nil ?_
  refine TQ.then_normal ?_
  refine T.block ?_
  refine T.loop3 [0, 1] (fun (A1 : Option Addr) (cap1 : Nat) (k : Nat) => [(5, .slice A1 k cap1), (6, .int .i64 (k : Nat))]) (fun (A1 : Option Addr) (cap1 : Nat) (k : Nat) => [row 126 1 A1 k cap1 ((w16 b k).flatMap eW)]) (fun (A1 : Option Addr) (cap1 : Nat) (k : Nat) => k ≤ 16) (fun (A1 : Option Addr) (cap1 : Nat) (k : Nat) => 16 - k) (none) (0) (0) (Nat.zero_le _) (And.intro (rfl) (And.intro (rfl) (trivial))) (fun _ _ h => h) fun A1 cap1 k g0 hx0 => ?_
  refine T.seq ?_
  refine T.seq ?_
  refine T.region ?_
  refine TO.rd rfl rfl (rd_move (v := .int _ _) rfl) ?_
  refine TO.rd rfl rfl (rd_lss rfl rfl) ?_
  refine TO.nil ?_
  refine TQ.then_normal ?_
  refine T.cond rfl (fun h3 => ?_) (fun h3 => ?_)
  · try simp only [decide_eq_true_eq, decide_eq_false_iff_not, Bool.not_eq_true', Bool.not_eq_false', Bool.not_eq_eq_eq_not, Bool.not_true, Bool.not_false, beq_iff_eq, beq_eq_false_iff_ne, bne_iff_ne, bne_eq_false_iff_eq, ne_eq, Int.not_lt, Int.not_le, Decidable.not_not] at h3
    refine T.skip ?_
    refine TQ.then_normal ?_
    refine T.seq ?_
    refine T.block ?_
    refine T.drawg Tryd.mixes 35 [(23, 0), (24, 1), (25, 2), (26, 3), (27, 4), (28, 5), (29, 6), (30, 7), (31, 8), (32, 9), (33, 10), (34, 11), (35, 12), (36, 13), (37, 14), (38, 15), (39, 16), (40, 17), (41, 18), (42, 19), (43, 20), (44, 21), (45, 22), (46, 23), (47, 24), (48, 25), (49, 26), (50, 27), (51, 28), (52, 29), (53, 30), (54, 31), (55, 32), (56, 33), (57, 34)] [0, 0, 0, 4, 14, 30, 62, 126, 0, 0, 512, 1536, 3840, 7936, 16128, 32512, 65534, 0, 0, 262144, 786432, 1966080, 4063232, 8257536, 16646144, 33554430, 0, 0, 134217728, 402653184, 1006632960, 2080374784, 4227858432, 8589934590, 17179869182, 34359738367, 68719476735] [34] (by kernel_rfl) ?_
    refine DG.rd rfl rfl rfl (fun _ _ => rd_move (v := .slice _ _ _) rfl) ?_
    refine DG.rd rfl rfl rfl (fun _ _ => rd_move (v := .slice _ _ _) rfl) ?_
    refine DG.rd rfl rfl rfl (fun _ _ => rd_move (v := .int _ _) rfl) ?_
    refine DG.rd rfl rfl rfl (fun _ _ => rd_mul rfl rfl (w64 (by first | omega | ((try simp only [H8.len, shaK_len, sched_len, w16_len, List.length_take] at *); omega)) (by first | omega | ((try simp only [H8.len, shaK_len, sched_len, w16_len, List.length_take] at *); omega)))) ?_
    refine DG.rd rfl rfl rfl (fun _ _ => rd_ix (k := (4 * k)) Tryd.under71 Tryd.size5 rfl rfl (Has.arg 1 rfl) (by omega) (by first | omega | ((try simp only [H8.len, shaK_len, sched_len, w16_len, List.length_take] at *); omega)) (by omega)) ?_
    refine DG.rd rfl rfl rfl (fun _ _ => rd_el (v := .int _ _) (4 * k) 0 Tryd.one5 rfl (Has.arg 1 rfl) rfl (by first | omega | ((try simp only [H8.len, shaK_len, sched_len, w16_len, List.length_take] at *); omega)) (Nat.le_of_ble_eq_true rfl) rfl) ?_
    refine DG.rd rfl rfl rfl (fun _ _ => rd_conv8_32 Tryd.isome5 Tryd.under126 rfl) ?_
    refine DG.rd rfl rfl rfl (fun _ _ => rd_shl32 (k := 24) rfl rfl (rfl) (by decide)) ?_
    refine DG.rd rfl rfl rfl (fun _ _ => rd_move (v := .slice _ _ _) rfl) ?_
    refine DG.rd rfl rfl rfl (fun _ _ => rd_move (v := .int _ _) rfl) ?_
    refine DG.rd rfl rfl rfl (fun _ _ => rd_mul rfl rfl (w64 (by first | omega | ((try simp only [H8.len, shaK_len, sched_len, w16_len, List.length_take] at *); omega)) (by first | omega | ((try simp only [H8.len, shaK_len, sched_len, w16_len, List.length_take] at *); omega)))) ?_
    refine DG.rd rfl rfl rfl (fun _ _ => rd_add rfl rfl (w64 (by first | omega | ((try simp only [H8.len, shaK_len, sched_len, w16_len, List.length_take] at *); omega)) (by first | omega | ((try simp only [H8.len, shaK_len, sched_len, w16_len, List.length_take] at *); omega)))) ?_
    refine DG.rd rfl rfl rfl (fun _ _ => rd_ix (k := (4 * k + 1)) Tryd.under71 Tryd.size5 rfl rfl (Has.arg 1 rfl) (by omega) (by first | omega | ((try simp only [H8.len, shaK_len, sched_len, w16_len, List.length_take] at *); omega)) (by omega)) ?_
    refine DG.rd rfl rfl rfl (fun _ _ => rd_el (v := .int _ _) (4 * k + 1) 0 Tryd.one5 rfl (Has.arg 1 rfl) rfl (by first | omega | ((try simp only [H8.len, shaK_len, sched_len, w16_len, List.length_take] at *); omega)) (Nat.le_of_ble_eq_true rfl) rfl) ?_
    refine DG.rd rfl rfl rfl (fun _ _ => rd_conv8_32 Tryd.isome5 Tryd.under126 rfl) ?_
    refine DG.rd rfl rfl rfl (fun _ _ => rd_shl32 (k := 16) rfl rfl (rfl) (by decide)) ?_
    refine DG.rd rfl rfl rfl (fun _ _ => rd_or32 rfl rfl) ?_
    refine DG.rd rfl rfl rfl (fun _ _ => rd_move (v := .slice _ _ _) rfl) ?_
    refine DG.rd rfl rfl rfl (fun _ _ => rd_move (v := .int _ _) rfl) ?_
    refine DG.rd rfl rfl rfl (fun _ _ => rd_mul rfl rfl (w64 (by first | omega | ((try simp only [H8.len, shaK_len, sched_len, w16_len, List.length_take] at *); omega)) (by first | omega | ((try simp only [H8.len, shaK_len, sched_len, w16_len, List.length_take] at *); omega)))) ?_
    refine DG.rd rfl rfl rfl (fun _ _ => rd_add rfl rfl (w64 (by first | omega | ((try simp only [H8.len, shaK_len, sched_len, w16_len, List.length_take] at *); omega)) (by first | omega | ((try simp only [H8.len, shaK_len, sched_len, w16_len, List.length_take] at *); omega)))) ?_
    refine DG.rd rfl rfl rfl (fun _ _ => rd_ix (k := (4 * k + 2)) Tryd.under71 Tryd.size5 rfl rfl (Has.arg 1 rfl) (by omega) (by first | omega | ((try simp only [H8.len, shaK_len, sched_len, w16_len, List.length_take] at *); omega)) (by omega)) ?_
    refine DG.rd rfl rfl rfl (fun _ _ => rd_el (v := .int _ _) (4 * k + 2) 0 Tryd.one5 rfl (Has.arg 1 rfl) rfl (by first | omega | ((try simp only [H8.len, shaK_len, sched_len, w16_len, List.length_take] at *); omega)) (Nat.le_of_ble_eq_true rfl) rfl) ?_
    refine DG.rd rfl rfl rfl (fun _ _ => rd_conv8_32 Tryd.isome5 Tryd.under126 rfl) ?_
    refine DG.rd rfl rfl rfl (fun _ _ => rd_shl32 (k := 8) rfl rfl (rfl) (by decide)) ?_
    refine DG.rd rfl rfl rfl (fun _ _ => rd_or32 rfl rfl) ?_
    refine DG.rd rfl rfl rfl (fun _ _ => rd_move (v := .slice _ _ _) rfl) ?_
    refine DG.rd rfl rfl rfl (fun _ _ => rd_move (v := .int _ _) rfl) ?_
    refine DG.rd rfl rfl rfl (fun _ _ => rd_mul rfl rfl (w64 (by first | omega | ((try simp only [H8.len, shaK_len, sched_len, w16_len, List.length_take] at *); omega)) (by first | omega | ((try simp only [H8.len, shaK_len, sched_len, w16_len, List.length_take] at *); omega)))) ?_
    refine DG.rd rfl rfl rfl (fun _ _ => rd_add rfl rfl (w64 (by first | omega | ((try simp only [H8.len, shaK_len, sched_len, w16_len, List.length_take] at *); omega)) (by first | omega | ((try simp only [H8.len, shaK_len, sched_len, w16_len, List.length_take] at *); omega)))) ?_
    refine DG.rd rfl rfl rfl (fun _ _ => rd_ix (k := (4 * k + 3)) Tryd.under71 Tryd.size5 rfl rfl (Has.arg 1 rfl) (by omega) (by first | omega | ((try simp only [H8.len, shaK_len, sched_len, w16_len, List.length_take] at *); omega)) (by omega)) ?_
    refine DG.rd rfl rfl rfl (fun _ _ => rd_el (v := .int _ _) (4 * k + 3) 0 Tryd.one5 rfl (Has.arg 1 rfl) rfl (by first | omega | ((try simp only [H8.len, shaK_len, sched_len, w16_len, List.length_take] at *); omega)) (Nat.le_of_ble_eq_true rfl) rfl) ?_
    refine DG.rd rfl rfl rfl (fun _ _ => rd_conv8_32 Tryd.isome5 Tryd.under126 rfl) ?_
    refine DG.rd rfl rfl rfl (fun _ _ => rd_or32 rfl rfl) ?_
    refine DG.buildS (cs := [.int _ _]) rfl rfl Tryd.under127 Tryd.size126 Tryd.zero126 (Nat.le_of_ble_eq_true rfl) (fun _ _ => rfl) ?_
    refine DG.done rfl (by decide) rfl (fun gh5 => ?_)
    refine TO.front1 ?_
    refine TO.app Tryd.trow126 Tryd.under127 (.inl ⟨_, Tryd.under127⟩) rfl rfl (Src.own1 1 rfl rfl) rfl rfl (by first | omega | (have := H8.len h; omega)) (fun A6 c7 hc8 => ?_)
    refine TO.row_eq (cs' := (w16 b (k + 1)).flatMap eW) rfl (by rw [w16_succ, List.flatMap_append, wordAt_get (by omega)]; rfl) ?_
    refine TO.rd rfl rfl (rd_assign (v := .slice _ _ _) rfl) ?_
    refine TO.nil ?_
    refine TQ.block_normal ?_
    refine TQ.then_normal ?_
    refine T.region ?_
    refine TO.rd rfl rfl (rd_move (v := .int _ _) rfl) ?_
    refine TO.rd rfl rfl (rd_add rfl rfl (w64 (by first | omega | ((try simp only [H8.len, shaK_len, sched_len, w16_len, List.length_take] at *); omega)) (by first | omega | ((try simp only [H8.len, shaK_len, sched_len, w16_len, List.length_take] at *); omega)))) ?_
    refine TO.rd rfl rfl (rd_assign (v := .int _ _) rfl) ?_
    refine TO.nil ?_
    refine TQ.againk (A6, c7, k + 1) ?_ ?_ (And.intro (rfl) (And.intro (rfl) (trivial))) (And.intro (rfl) (And.intro (rfl) (trivial))) (fun _ _ h => h.sel (js := [0, 2]) (by decide))
    · first | omega | (dsimp only; omega)
    · first | omega | (dsimp only; omega)
  try simp only [decide_eq_true_eq, decide_eq_false_iff_not, Bool.not_eq_true', Bool.not_eq_false', Bool.not_eq_eq_eq_not, Bool.not_true, Bool.not_false, beq_iff_eq, beq_eq_false_iff_ne, bne_iff_ne, bne_eq_false_iff_eq, ne_eq, Int.not_lt, Int.not_le, Decidable.not_not] at h3
  refine T.exit ?_
  refine TQ.then_exit ?_
  refine TQ.then_exit ?_
  refine TQ.block_out ?_
  refine TQ.then_normal ?_
  refine T.seq ?_
  refine T.seq ?_
  refine T.region ?_
  refine TO.rd rfl rfl (rd_assign (v := .int _ _) rfl) ?_
  refine TO.nil ?_
  refine TQ.then_normal ?_
  refine T.block ?_
  obtain rfl : k = 16 := by omega
  refine T.loop4 [0] (fun (A1 : Option Addr) (cap1 : Nat) (k : Nat) (wd : List UInt32) => [(5, .slice A1 k cap1), (7, .int .i64 (k : Nat))]) (fun (A1 : Option Addr) (cap1 : Nat) (k : Nat) (wd : List UInt32) => [row 126 1 A1 k cap1 (wd.flatMap eW)]) (fun (A1 : Option Addr) (cap1 : Nat) (k : Nat) (wd : List UInt32) => wd.length = k ∧ k ≤ 64 ∧ wext (64 - k) wd = sched b ∧ 16 ≤ k) (fun (A1 : Option Addr) (cap1 : Nat) (k : Nat) (wd : List UInt32) => 64 - k) (A1) (cap1) (16) (w16 b 16) (⟨w16_len _ _, by decide, rfl, by decide⟩) (And.intro (rfl) (And.intro (rfl) (trivial))) (fun _ _ h => h) fun A1 cap1 k wd g1 hx1 => ?_
  obtain ⟨hwl, hk, hw, hk16⟩ := hx1
  refine T.seq ?_
  refine T.seq ?_
  refine T.region ?_
  refine TO.rd rfl rfl (rd_move (v := .int _ _) rfl) ?_
  refine TO.rd rfl rfl (rd_lss rfl rfl) ?_
  refine TO.nil ?_
  refine TQ.then_normal ?_
  refine T.cond rfl (fun h9 => ?_) (fun h9 => ?_)
  · try simp only [decide_eq_true_eq, decide_eq_false_iff_not, Bool.not_eq_true', Bool.not_eq_false', Bool.not_eq_eq_eq_not, Bool.not_true, Bool.not_false, beq_iff_eq, beq_eq_false_iff_ne, bne_iff_ne, bne_eq_false_iff_eq, ne_eq, Int.not_lt, Int.not_le, Decidable.not_not] at h9
    refine T.skip ?_
    refine TQ.then_normal ?_
    refine T.seq ?_
    refine T.block ?_
    refine T.seq ?_
    refine T.drawq Tryd.mixes 19 [(63, 0), (64, 1), (65, 2), (66, 3), (67, 4), (68, 5), (69, 6), (70, 7), (71, 8), (72, 9), (73, 10), (74, 11), (75, 12), (76, 13), (77, 14), (78, 15), (79, 16), (80, 17), (81, 18)] [0, 0, 2, 7, 15, 31, 0, 0, 128, 448, 960, 2047, 4095, 0, 0, 16384, 57344, 122880, 253952, 524287, 1048575] (by kernel_rfl) ?_
    refine DQ.rd rfl rfl (fun _ => rd_move (v := .slice _ _ _) rfl) ?_
    refine DQ.rd rfl rfl (fun _ => rd_move (v := .int _ _) rfl) ?_
    refine DQ.rd rfl rfl (fun _ => rd_sub rfl rfl (w64 (by first | omega | ((try simp only [H8.len, shaK_len, sched_len, w16_len, List.length_take] at *); omega)) (by first | omega | ((try simp only [H8.len, shaK_len, sched_len, w16_len, List.length_take] at *); omega)))) ?_
    refine DQ.rd rfl rfl (fun _ => rd_ix (k := (k - 15)) Tryd.under127 Tryd.size126 rfl rfl (row_slc' (e := eW) (xs := wd) (fun _ => rfl) (by first | rfl | omega | simp) (rfl) (Has.own 0 rfl)) (by omega) (by first | omega | ((try simp only [H8.len, shaK_len, sched_len, w16_len, List.length_take] at *); omega)) (by omega)) ?_
    refine DQ.rd rfl rfl (fun _ => rd_el (v := .int _ _) (k - 15) 0 Tryd.one126 rfl (row_slc' (e := eW) (xs := wd) (fun _ => rfl) (by first | rfl | omega | simp) (rfl) (Has.own 0 rfl)) rfl (by first | omega | ((try simp only [H8.len, shaK_len, sched_len, w16_len, List.length_take] at *); omega)) (Nat.le_of_ble_eq_true rfl) rfl) ?_
    refine DQ.fn rfl Tryd.enters93 (c_ref02_rotated _ 7 (by decide) (by decide)) (fun _ => rfl) Reads0 ?_
    refine DQ.rd rfl rfl (fun _ => rd_move (v := .slice _ _ _) rfl) ?_
    refine DQ.rd rfl rfl (fun _ => rd_move (v := .int _ _) rfl) ?_
    refine DQ.rd rfl rfl (fun _ => rd_sub rfl rfl (w64 (by first | omega | ((try simp only [H8.len, shaK_len, sched_len, w16_len, List.length_take] at *); omega)) (by first | omega | ((try simp only [H8.len, shaK_len, sched_len, w16_len, List.length_take] at *); omega)))) ?_
    refine DQ.rd rfl rfl (fun _ => rd_ix (k := (k - 15)) Tryd.under127 Tryd.size126 rfl rfl (row_slc' (e := eW) (xs := wd) (fun _ => rfl) (by first | rfl | omega | simp) (rfl) (Has.own 0 rfl)) (by omega) (by first | omega | ((try simp only [H8.len, shaK_len, sched_len, w16_len, List.length_take] at *); omega)) (by omega)) ?_
    refine DQ.rd rfl rfl (fun _ => rd_el (v := .int _ _) (k - 15) 0 Tryd.one126 rfl (row_slc' (e := eW) (xs := wd) (fun _ => rfl) (by first | rfl | omega | simp) (rfl) (Has.own 0 rfl)) rfl (by first | omega | ((try simp only [H8.len, shaK_len, sched_len, w16_len, List.length_take] at *); omega)) (Nat.le_of_ble_eq_true rfl) rfl) ?_
    refine DQ.fn rfl Tryd.enters93 (c_ref02_rotated _ 18 (by decide) (by decide)) (fun _ => rfl) Reads0 ?_
    refine DQ.rd rfl rfl (fun _ => rd_xor32 rfl rfl) ?_
    refine DQ.rd rfl rfl (fun _ => rd_move (v := .slice _ _ _) rfl) ?_
    refine DQ.rd rfl rfl (fun _ => rd_move (v := .int _ _) rfl) ?_
    refine DQ.rd rfl rfl (fun _ => rd_sub rfl rfl (w64 (by first | omega | ((try simp only [H8.len, shaK_len, sched_len, w16_len, List.length_take] at *); omega)) (by first | omega | ((try simp only [H8.len, shaK_len, sched_len, w16_len, List.length_take] at *); omega)))) ?_
    refine DQ.rd rfl rfl (fun _ => rd_ix (k := (k - 15)) Tryd.under127 Tryd.size126 rfl rfl (row_slc' (e := eW) (xs := wd) (fun _ => rfl) (by first | rfl | omega | simp) (rfl) (Has.own 0 rfl)) (by omega) (by first | omega | ((try simp only [H8.len, shaK_len, sched_len, w16_len, List.length_take] at *); omega)) (by omega)) ?_
    refine DQ.rd rfl rfl (fun _ => rd_el (v := .int _ _) (k - 15) 0 Tryd.one126 rfl (row_slc' (e := eW) (xs := wd) (fun _ => rfl) (by first | rfl | omega | simp) (rfl) (Has.own 0 rfl)) rfl (by first | omega | ((try simp only [H8.len, shaK_len, sched_len, w16_len, List.length_take] at *); omega)) (Nat.le_of_ble_eq_true rfl) rfl) ?_
    refine DQ.rd rfl rfl (fun _ => rd_shr32 (k := 3) rfl rfl (rfl) (by decide)) ?_
    refine DQ.done rfl ?_
    refine TO.rd rfl rfl (rd_xor32 rfl rfl) ?_
    refine TO.rd rfl rfl (rd_assign (v := .int _ _) rfl) ?_
    refine TO.nil ?_
    refine TQ.then_normal ?_
    refine T.seq ?_
    refine T.drawq Tryd.mixes 19 [(83, 0), (84, 1), (85, 2), (86, 3), (87, 4), (88, 5), (89, 6), (90, 7), (91, 8), (92, 9), (93, 10), (94, 11), (95, 12), (96, 13), (97, 14), (98, 15), (99, 16), (100, 17), (101, 18)] [0, 0, 2, 7, 15, 31, 0, 0, 128, 448, 960, 2047, 4095, 0, 0, 16384, 57344, 122880, 253952, 524287, 1048575] (by kernel_rfl) ?_
    refine DQ.rd rfl rfl (fun _ => rd_move (v := .slice _ _ _) rfl) ?_
    refine DQ.rd rfl rfl (fun _ => rd_move (v := .int _ _) rfl) ?_
    refine DQ.rd rfl rfl (fun _ => rd_sub rfl rfl (w64 (by first | omega | ((try simp only [H8.len, shaK_len, sched_len, w16_len, List.length_take] at *); omega)) (by first | omega | ((try simp only [H8.len, shaK_len, sched_len, w16_len, List.length_take] at *); omega)))) ?_
    refine DQ.rd rfl rfl (fun _ => rd_ix (k := (k - 2)) Tryd.under127 Tryd.size126 rfl rfl (row_slc' (e := eW) (xs := wd) (fun _ => rfl) (by first | rfl | omega | simp) (rfl) (Has.own 0 rfl)) (by omega) (by first | omega | ((try simp only [H8.len, shaK_len, sched_len, w16_len, List.length_take] at *); omega)) (by omega)) ?_
    refine DQ.rd rfl rfl (fun _ => rd_el (v := .int _ _) (k - 2) 0 Tryd.one126 rfl (row_slc' (e := eW) (xs := wd) (fun _ => rfl) (by first | rfl | omega | simp) (rfl) (Has.own 0 rfl)) rfl (by first | omega | ((try simp only [H8.len, shaK_len, sched_len, w16_len, List.length_take] at *); omega)) (Nat.le_of_ble_eq_true rfl) rfl) ?_
    refine DQ.fn rfl Tryd.enters93 (c_ref02_rotated _ 17 (by decide) (by decide)) (fun _ => rfl) Reads0 ?_
    refine DQ.rd rfl rfl (fun _ => rd_move (v := .slice _ _ _) rfl) ?_
    refine DQ.rd rfl rfl (fun _ => rd_move (v := .int _ _) rfl) ?_
    refine DQ.rd rfl rfl (fun _ => rd_sub rfl rfl (w64 (by first | omega | ((try simp only [H8.len, shaK_len, sched_len, w16_len, List.length_take] at *); omega)) (by first | omega | ((try simp only [H8.len, shaK_len, sched_len, w16_len, List.length_take] at *); omega)))) ?_
    refine DQ.rd rfl rfl (fun _ => rd_ix (k := (k - 2)) Tryd.under127 Tryd.size126 rfl rfl (row_slc' (e := eW) (xs := wd) (fun _ => rfl) (by first | rfl | omega | simp) (rfl) (Has.own 0 rfl)) (by omega) (by first | omega | ((try simp only [H8.len, shaK_len, sched_len, w16_len, List.length_take] at *); omega)) (by omega)) ?_
    refine DQ.rd rfl rfl (fun _ => rd_el (v := .int _ _) (k - 2) 0 Tryd.one126 rfl (row_slc' (e := eW) (xs := wd) (fun _ => rfl) (by first | rfl | omega | simp) (rfl) (Has.own 0 rfl)) rfl (by first | omega | ((try simp only [H8.len, shaK_len, sched_len, w16_len, List.length_take] at *); omega)) (Nat.le_of_ble_eq_true rfl) rfl) ?_
    refine DQ.fn rfl Tryd.enters93 (c_ref02_rotated _ 19 (by decide) (by decide)) (fun _ => rfl) Reads0 ?_
    refine DQ.rd rfl rfl (fun _ => rd_xor32 rfl rfl) ?_
    refine DQ.rd rfl rfl (fun _ => rd_move (v := .slice _ _ _) rfl) ?_
    refine DQ.rd rfl rfl (fun _ => rd_move (v := .int _ _) rfl) ?_
    refine DQ.rd rfl rfl (fun _ => rd_sub rfl rfl (w64 (by first | omega | ((try simp only [H8.len, shaK_len, sched_len, w16_len, List.length_take] at *); omega)) (by first | omega | ((try simp only [H8.len, shaK_len, sched_len, w16_len, List.length_take] at *); omega)))) ?_
    refine DQ.rd rfl rfl (fun _ => rd_ix (k := (k - 2)) Tryd.under127 Tryd.size126 rfl rfl (row_slc' (e := eW) (xs := wd) (fun _ => rfl) (by first | rfl | omega | simp) (rfl) (Has.own 0 rfl)) (by omega) (by first | omega | ((try simp only [H8.len, shaK_len, sched_len, w16_len, List.length_take] at *); omega)) (by omega)) ?_
    refine DQ.rd rfl rfl (fun _ => rd_el (v := .int _ _) (k - 2) 0 Tryd.one126 rfl (row_slc' (e := eW) (xs := wd) (fun _ => rfl) (by first | rfl | omega | simp) (rfl) (Has.own 0 rfl)) rfl (by first | omega | ((try simp only [H8.len, shaK_len, sched_len, w16_len, List.length_take] at *); omega)) (Nat.le_of_ble_eq_true rfl) rfl) ?_
    refine DQ.rd rfl rfl (fun _ => rd_shr32 (k := 10) rfl rfl (rfl) (by decide)) ?_
    refine DQ.done rfl ?_
    refine TO.rd rfl rfl (rd_xor32 rfl rfl) ?_
    refine TO.rd rfl rfl (rd_assign (v := .int _ _) rfl) ?_
    refine TO.nil ?_
    refine TQ.then_normal ?_
    refine T.drawg Tryd.mixes 17 [(103, 0), (104, 1), (105, 2), (106, 3), (107, 4), (108, 5), (109, 6), (110, 7), (111, 8), (112, 9), (113, 10), (114, 11), (115, 12), (116, 13), (117, 14), (118, 15), (119, 16)] [0, 0, 0, 4, 14, 30, 0, 126, 0, 0, 512, 1792, 3840, 8190, 0, 32766, 65534, 131071, 262143] [16] (by kernel_rfl) ?_
    refine DG.rd rfl rfl rfl (fun _ _ => rd_move (v := .slice _ _ _) rfl) ?_
    refine DG.rd rfl rfl rfl (fun _ _ => rd_move (v := .slice _ _ _) rfl) ?_
    refine DG.rd rfl rfl rfl (fun _ _ => rd_move (v := .int _ _) rfl) ?_
    refine DG.rd rfl rfl rfl (fun _ _ => rd_sub rfl rfl (w64 (by first | omega | ((try simp only [H8.len, shaK_len, sched_len, w16_len, List.length_take] at *); omega)) (by first | omega | ((try simp only [H8.len, shaK_len, sched_len, w16_len, List.length_take] at *); omega)))) ?_
    refine DG.rd rfl rfl rfl (fun _ _ => rd_ix (k := (k - 16)) Tryd.under127 Tryd.size126 rfl rfl (row_slc' (e := eW) (xs := wd) (fun _ => rfl) (by first | rfl | omega | simp) (rfl) (Has.own 0 rfl)) (by omega) (by first | omega | ((try simp only [H8.len, shaK_len, sched_len, w16_len, List.length_take] at *); omega)) (by omega)) ?_
    refine DG.rd rfl rfl rfl (fun _ _ => rd_el (v := .int _ _) (k - 16) 0 Tryd.one126 rfl (row_slc' (e := eW) (xs := wd) (fun _ => rfl) (by first | rfl | omega | simp) (rfl) (Has.own 0 rfl)) rfl (by first | omega | ((try simp only [H8.len, shaK_len, sched_len, w16_len, List.length_take] at *); omega)) (Nat.le_of_ble_eq_true rfl) rfl) ?_
    refine DG.rd rfl rfl rfl (fun _ _ => rd_move (v := .int _ _) rfl) ?_
    refine DG.rd rfl rfl rfl (fun _ _ => rd_add32 rfl rfl) ?_
    refine DG.rd rfl rfl rfl (fun _ _ => rd_move (v := .slice _ _ _) rfl) ?_
    refine DG.rd rfl rfl rfl (fun _ _ => rd_move (v := .int _ _) rfl) ?_
    refine DG.rd rfl rfl rfl (fun _ _ => rd_sub rfl rfl (w64 (by first | omega | ((try simp only [H8.len, shaK_len, sched_len, w16_len, List.length_take] at *); omega)) (by first | omega | ((try simp only [H8.len, shaK_len, sched_len, w16_len, List.length_take] at *); omega)))) ?_
    refine DG.rd rfl rfl rfl (fun _ _ => rd_ix (k := (k - 7)) Tryd.under127 Tryd.size126 rfl rfl (row_slc' (e := eW) (xs := wd) (fun _ => rfl) (by first | rfl | omega | simp) (rfl) (Has.own 0 rfl)) (by omega) (by first | omega | ((try simp only [H8.len, shaK_len, sched_len, w16_len, List.length_take] at *); omega)) (by omega)) ?_
    refine DG.rd rfl rfl rfl (fun _ _ => rd_el (v := .int _ _) (k - 7) 0 Tryd.one126 rfl (row_slc' (e := eW) (xs := wd) (fun _ => rfl) (by first | rfl | omega | simp) (rfl) (Has.own 0 rfl)) rfl (by first | omega | ((try simp only [H8.len, shaK_len, sched_len, w16_len, List.length_take] at *); omega)) (Nat.le_of_ble_eq_true rfl) rfl) ?_
    refine DG.rd rfl rfl rfl (fun _ _ => rd_add32 rfl rfl) ?_
    refine DG.rd rfl rfl rfl (fun _ _ => rd_move (v := .int _ _) rfl) ?_
    refine DG.rd rfl rfl rfl (fun _ _ => rd_add32 rfl rfl) ?_
    refine DG.buildS (cs := [.int _ _]) rfl rfl Tryd.under127 Tryd.size126 Tryd.zero126 (Nat.le_of_ble_eq_true rfl) (fun _ _ => rfl) ?_
    refine DG.done rfl (by decide) rfl (fun gh11 => ?_)
    refine TO.front1 ?_
    refine TO.app Tryd.trow126 Tryd.under127 (.inl ⟨_, Tryd.under127⟩) rfl rfl (Src.own1 1 rfl rfl) rfl rfl (by first | omega | (have := H8.len h; omega)) (fun A12 c13 hc14 => ?_)
    refine TO.row_eq (cs' := (wd ++ [wnext wd]).flatMap eW) rfl (by rw [List.flatMap_append, wnext_get hwl hk16]; rfl) ?_
    refine TO.rd rfl rfl (rd_assign (v := .slice _ _ _) rfl) ?_
    refine TO.nil ?_
    refine TQ.block_normal ?_
    refine TQ.then_normal ?_
    refine T.region ?_
    refine TO.rd rfl rfl (rd_move (v := .int _ _) rfl) ?_
    refine TO.rd rfl rfl (rd_add rfl rfl (w64 (by first | omega | ((try simp only [H8.len, shaK_len, sched_len, w16_len, List.length_take] at *); omega)) (by first | omega | ((try simp only [H8.len, shaK_len, sched_len, w16_len, List.length_take] at *); omega)))) ?_
    refine TO.rd rfl rfl (rd_assign (v := .int _ _) rfl) ?_
    refine TO.nil ?_
    refine TQ.againk (A12, c13, k + 1, wd ++ [wnext wd]) ?_ ?_ (And.intro (rfl) (And.intro (rfl) (trivial))) (And.intro (rfl) (trivial)) (fun _ _ h => h.sel (js := [0, 2]) (by decide))
    · refine ⟨by simp; omega, by dsimp only; omega, ?_, by dsimp only; omega⟩
      rw [← hw, show 64 - k = (64 - (k + 1)) + 1 by omega]
      rfl
    · first | omega | (dsimp only; omega)
  try simp only [decide_eq_true_eq, decide_eq_false_iff_not, Bool.not_eq_true', Bool.not_eq_false', Bool.not_eq_eq_eq_not, Bool.not_true, Bool.not_false, beq_iff_eq, beq_eq_false_iff_ne, bne_iff_ne, bne_eq_false_iff_eq, ne_eq, Int.not_lt, Int.not_le, Decidable.not_not] at h9
  refine T.exit ?_
  refine TQ.then_exit ?_
  refine TQ.then_exit ?_
  refine TQ.block_out ?_
  refine TQ.then_normal ?_
  refine T.seq ?_
  refine T.region ?_
  refine TO.fnx Tryd.enters94 (c_ref02_constants) rfl Reads0 (fun ⟨A15, cap16⟩ hx17 => ?_)
  refine TO.rd rfl rfl (rd_assign (v := .slice _ _ _) rfl) ?_
  refine TO.nil ?_
  refine TQ.then_normal ?_
  refine T.seq ?_
  refine T.region ?_
  refine TO.rd rfl rfl (rd_assign (v := .slice none 0 0) rfl) ?_
  refine TO.newrow 126 1 ?_
  refine TO.nil ?_
  refine TQ.then_normal ?_
  refine T.seq ?_
  refine T.region ?_
  refine TO.rd rfl rfl (rd_move (v := .slice _ _ _) rfl) ?_
  refine TO.rd rfl rfl (rd_move (v := .slice _ _ _) rfl) ?_
  refine TO.app Tryd.trow126 Tryd.under127 (.inl ⟨_, Tryd.under127⟩) rfl rfl (fun _ _ _ hw => Src.ofSlc (e := eW) (fun _ => rfl) (Has.arg 0 rfl) hw) (flatMap_len (e := eW) (fun _ => rfl) _) (flatMap_one (e := eW) (fun _ => rfl) _) (by first | omega | (have := H8.len h; omega)) (fun A20 c21 hc22 => ?_)
  refine TO.rd rfl rfl (rd_assign (v := .slice _ _ _) rfl) ?_
  refine TO.nil ?_
  refine TQ.then_normal ?_
  refine T.seq ?_
  refine T.seq ?_
  refine T.region ?_
  refine TO.rd rfl rfl (rd_assign (v := .int _ _) rfl) ?_
  refine TO.nil ?_
  refine TQ.then_normal ?_
  refine T.block ?_
  obtain rfl : k = 64 := by omega
  have hws : wd = sched b := by simpa only [Nat.sub_self, wext] using hw
  have hkl := shaK_len
  refine T.loop4 [0, 5, 10] (fun (A2 : Option Addr) (cap2 : Nat) (k : Nat) (v : H8) => [(11, .slice A2 8 cap2), (12, .int .i64 (k : Nat))]) (fun (A2 : Option Addr) (cap2 : Nat) (k : Nat) (v : H8) => [row 126 1 A2 8 cap2 (v.l.flatMap eW)]) (fun (A2 : Option Addr) (cap2 : Nat) (k : Nat) (v : H8) => v = rnds h ((shaK.zip wd).take k) ∧ k ≤ 64) (fun (A2 : Option Addr) (cap2 : Nat) (k : Nat) (v : H8) => 64 - k) (A20) (c21) (0) (h) (⟨rfl, by decide⟩) (And.intro (rfl) (And.intro (rfl) (trivial))) (fun _ _ h => h) fun A2 cap2 k v g2 hx2 => ?_
  obtain ⟨hv, hk⟩ := hx2
  have hvl : v.l.length = 8 := rfl
  refine T.seq ?_
  refine T.seq ?_
  refine T.region ?_
  refine TO.rd rfl rfl (rd_move (v := .int _ _) rfl) ?_
  refine TO.rd rfl rfl (rd_lss rfl rfl) ?_
  refine TO.nil ?_
  refine TQ.then_normal ?_
  refine T.cond_ft rfl (fun h23 => ?_) (fun h23 => ?_)
  · try simp only [decide_eq_true_eq, decide_eq_false_iff_not, Bool.not_eq_true', Bool.not_eq_false', Bool.not_eq_eq_eq_not, Bool.not_true, Bool.not_false, beq_iff_eq, beq_eq_false_iff_ne, bne_iff_ne, bne_eq_false_iff_eq, ne_eq, Int.not_lt, Int.not_le, Decidable.not_not] at h23
    refine T.exit ?_
    refine TQ.then_exit ?_
    refine TQ.then_exit ?_
    refine TQ.block_out ?_
    refine TQ.then_normal ?_
    refine T.seq ?_
    refine T.region ?_
    refine TO.rd rfl rfl (rd_assign (v := .slice none 0 0) rfl) ?_
    refine TO.newrow 126 1 ?_
    refine TO.nil ?_
    refine TQ.then_normal ?_
    refine T.seq ?_
    refine T.seq ?_
    refine T.region ?_
    refine TO.rd rfl rfl (rd_assign (v := .int _ _) rfl) ?_
    refine TO.nil ?_
    refine TQ.then_normal ?_
    refine T.block ?_
    refine T.loop3 [0, 11] (fun (A3 : Option Addr) (cap3 : Nat) (k : Nat) => [(17, .slice A3 k cap3), (18, .int .i64 (k : Nat))]) (fun (A3 : Option Addr) (cap3 : Nat) (k : Nat) => [row 126 1 A3 k cap3 (((h.add v).l.take k).flatMap eW)]) (fun (A3 : Option Addr) (cap3 : Nat) (k : Nat) => k ≤ 8) (fun (A3 : Option Addr) (cap3 : Nat) (k : Nat) => 8 - k) (none) (0) (0) (Nat.zero_le _) (And.intro (rfl) (And.intro (rfl) (trivial))) (fun _ _ h => h) fun A3 cap3 k g3 hx3 => ?_
    refine T.seq ?_
    refine T.seq ?_
    refine T.region ?_
    refine TO.rd rfl rfl (rd_move (v := .int _ _) rfl) ?_
    refine TO.rd rfl rfl (rd_lss rfl rfl) ?_
    refine TO.nil ?_
    refine TQ.then_normal ?_
    refine T.cond_ft rfl (fun h26 => ?_) (fun h26 => ?_)
    · try simp only [decide_eq_true_eq, decide_eq_false_iff_not, Bool.not_eq_true', Bool.not_eq_false', Bool.not_eq_eq_eq_not, Bool.not_true, Bool.not_false, beq_iff_eq, beq_eq_false_iff_ne, bne_iff_ne, bne_eq_false_iff_eq, ne_eq, Int.not_lt, Int.not_le, Decidable.not_not] at h26
      refine T.exit ?_
      refine TQ.then_exit ?_
      refine TQ.then_exit ?_
      refine TQ.block_out ?_
      refine TQ.then_normal ?_
      refine T.seq ?_
      refine T.region ?_
      refine TO.rd rfl rfl (rd_move (v := .slice _ _ _) rfl) ?_
      refine TO.rd rfl rfl (rd_assign (v := .slice _ _ _) rfl) ?_
      refine TO.nil ?_
      refine TQ.then_normal ?_
      refine T.ret ?_
      refine TQ.done ((A3, cap3)) (trivial) ?_ (fun _ _ => seps_row 0 rfl (by omega) (by rw [shaBlock, List.take_of_length_le (by rw [H8.len]; omega), hv, ← hws, List.take_of_length_le (by rw [zip_len hwl]; omega)])) (res1 Tryd.results80 (Res.tmp (v := .slice _ _ _) rfl)) _ (.inl rfl)
      rw [show k = 8 by omega]
    try simp only [decide_eq_true_eq, decide_eq_false_iff_not, Bool.not_eq_true', Bool.not_eq_false', Bool.not_eq_eq_eq_not, Bool.not_true, Bool.not_false, beq_iff_eq, beq_eq_false_iff_ne, bne_iff_ne, bne_eq_false_iff_eq, ne_eq, Int.not_lt, Int.not_le, Decidable.not_not] at h26
    refine T.skip ?_
    refine TQ.then_normal ?_
    refine T.seq ?_
    refine T.block ?_
    refine T.drawg Tryd.mixes 11 [(225, 0), (226, 1), (227, 2), (228, 3), (229, 4), (230, 5), (231, 6), (232, 7), (233, 8), (234, 9), (235, 10)] [0, 0, 0, 6, 14, 0, 0, 96, 224, 510, 1022, 2047, 4095] [10] (by kernel_rfl) ?_
    refine DG.rd rfl rfl rfl (fun _ _ => rd_move (v := .slice _ _ _) rfl) ?_
    refine DG.rd rfl rfl rfl (fun _ _ => rd_move (v := .slice _ _ _) rfl) ?_
    refine DG.rd rfl rfl rfl (fun _ _ => rd_move (v := .int _ _) rfl) ?_
    refine DG.rd rfl rfl rfl (fun _ _ => rd_ix Tryd.under127 Tryd.size126 rfl rfl (Has.arg 0 rfl) rfl (by first | omega | ((try simp only [H8.len, shaK_len, sched_len, w16_len, List.length_take] at *); omega)) (by omega)) ?_
    refine DG.rd rfl rfl rfl (fun _ _ => rd_el (v := .int _ _) _ 0 Tryd.one126 rfl (Has.arg 0 rfl) rfl (by first | omega | ((try simp only [H8.len, shaK_len, sched_len, w16_len, List.length_take] at *); omega)) (Nat.le_of_ble_eq_true rfl) rfl) ?_
    refine DG.rd rfl rfl rfl (fun _ _ => rd_move (v := .slice _ _ _) rfl) ?_
    refine DG.rd rfl rfl rfl (fun _ _ => rd_move (v := .int _ _) rfl) ?_
    refine DG.rd rfl rfl rfl (fun _ _ => rd_ix Tryd.under127 Tryd.size126 rfl rfl (row_slc' (e := eW) (xs := v.l) (fun _ => rfl) (by first | rfl | omega | simp) (rfl) (Has.own 1 rfl)) rfl (by first | omega | ((try simp only [H8.len, shaK_len, sched_len, w16_len, List.length_take] at *); omega)) (by omega)) ?_
    refine DG.rd rfl rfl rfl (fun _ _ => rd_el (v := .int _ _) _ 0 Tryd.one126 rfl (row_slc' (e := eW) (xs := v.l) (fun _ => rfl) (by first | rfl | omega | simp) (rfl) (Has.own 1 rfl)) rfl (by first | omega | ((try simp only [H8.len, shaK_len, sched_len, w16_len, List.length_take] at *); omega)) (Nat.le_of_ble_eq_true rfl) rfl) ?_
    refine DG.rd rfl rfl rfl (fun _ _ => rd_add32 rfl rfl) ?_
    refine DG.buildS (cs := [.int _ _]) rfl rfl Tryd.under127 Tryd.size126 Tryd.zero126 (Nat.le_of_ble_eq_true rfl) (fun _ _ => rfl) ?_
    refine DG.done rfl (by decide) rfl (fun gh28 => ?_)
    refine TO.front1 ?_
    refine TO.app Tryd.trow126 Tryd.under127 (.inl ⟨_, Tryd.under127⟩) rfl rfl (Src.own1 1 rfl rfl) rfl rfl (by first | omega | (have := H8.len h; omega)) (fun A29 c30 hc31 => ?_)
    refine TO.row_eq (cs' := ((h.add v).l.take (k + 1)).flatMap eW) rfl (add_row (by omega) _ _) ?_
    refine TO.rd rfl rfl (rd_assign (v := .slice _ _ _) rfl) ?_
    refine TO.nil ?_
    refine TQ.block_normal ?_
    refine TQ.then_normal ?_
    refine T.region ?_
    refine TO.rd rfl rfl (rd_move (v := .int _ _) rfl) ?_
    refine TO.rd rfl rfl (rd_add rfl rfl (w64 (by first | omega | ((try simp only [H8.len, shaK_len, sched_len, w16_len, List.length_take] at *); omega)) (by first | omega | ((try simp only [H8.len, shaK_len, sched_len, w16_len, List.length_take] at *); omega)))) ?_
    refine TO.rd rfl rfl (rd_assign (v := .int _ _) rfl) ?_
    refine TO.nil ?_
    refine TQ.againk (A29, c30, k + 1) ?_ ?_ (And.intro (rfl) (And.intro (rfl) (trivial))) (And.intro (rfl) (And.intro (rfl) (trivial))) (fun _ _ h => h.sel (js := [0, 2, 3, 4, 5]) (by decide))
    · first | omega | (dsimp only; omega)
    · first | omega | (dsimp only; omega)
  try simp only [decide_eq_true_eq, decide_eq_false_iff_not, Bool.not_eq_true', Bool.not_eq_false', Bool.not_eq_eq_eq_not, Bool.not_true, Bool.not_false, beq_iff_eq, beq_eq_false_iff_ne, bne_iff_ne, bne_eq_false_iff_eq, ne_eq, Int.not_lt, Int.not_le, Decidable.not_not] at h23
  refine T.skip ?_
  refine TQ.then_normal ?_
  refine T.seq ?_
  refine T.block ?_
  refine T.seq ?_
  refine T.region ?_
  refine TO.rd rfl rfl (rd_move (v := .slice _ _ _) rfl) ?_
  refine TO.rd rfl rfl (rd_ix (k := 0) Tryd.under127 Tryd.size126 rfl rfl (row_slc' (e := eW) (xs := v.l) (fun _ => rfl) (by first | rfl | omega | simp) (rfl) (Has.own 0 rfl)) rfl (by first | omega | ((try simp only [H8.len, shaK_len, sched_len, w16_len, List.length_take] at *); omega)) (by omega)) ?_
  refine TO.rd rfl rfl (rd_el (v := .int _ _) 0 0 Tryd.one126 rfl (row_slc' (e := eW) (xs := v.l) (fun _ => rfl) (by first | rfl | omega | simp) (rfl) (Has.own 0 rfl)) rfl (by first | omega | ((try simp only [H8.len, shaK_len, sched_len, w16_len, List.length_take] at *); omega)) (Nat.le_of_ble_eq_true rfl) rfl) ?_
  refine TO.rd rfl rfl (rd_assign (v := .int _ _) rfl) ?_
  refine TO.nil ?_
  refine TQ.then_normal ?_
  refine T.seq ?_
  refine T.region ?_
  refine TO.rd rfl rfl (rd_move (v := .slice _ _ _) rfl) ?_
  refine TO.rd rfl rfl (rd_ix (k := 4) Tryd.under127 Tryd.size126 rfl rfl (row_slc' (e := eW) (xs := v.l) (fun _ => rfl) (by first | rfl | omega | simp) (rfl) (Has.own 0 rfl)) rfl (by first | omega | ((try simp only [H8.len, shaK_len, sched_len, w16_len, List.length_take] at *); omega)) (by omega)) ?_
  refine TO.rd rfl rfl (rd_el (v := .int _ _) 4 0 Tryd.one126 rfl (row_slc' (e := eW) (xs := v.l) (fun _ => rfl) (by first | rfl | omega | simp) (rfl) (Has.own 0 rfl)) rfl (by first | omega | ((try simp only [H8.len, shaK_len, sched_len, w16_len, List.length_take] at *); omega)) (Nat.le_of_ble_eq_true rfl) rfl) ?_
  refine TO.rd rfl rfl (rd_assign (v := .int _ _) rfl) ?_
  refine TO.nil ?_
  refine TQ.then_normal ?_
  refine T.seq ?_
  refine T.drawq Tryd.mixes 34 [(135, 0), (136, 1), (137, 2), (138, 3), (139, 4), (140, 5), (141, 6), (142, 7), (143, 8), (144, 9), (145, 10), (146, 11), (147, 12), (148, 13), (149, 14), (150, 15), (151, 16), (152, 17), (153, 18), (154, 19), (155, 20), (156, 21), (157, 22), (158, 23), (159, 24), (160, 25), (161, 26), (162, 27), (163, 28), (164, 29), (165, 30), (166, 31), (167, 32), (168, 33)] [0, 1, 3, 0, 8, 0, 56, 120, 0, 376, 1016, 2047, 0, 0, 8192, 24576, 61440, 0, 131072, 0, 524288, 1572864, 4063232, 8384512, 16777215, 0, 0, 100663296, 234881024, 536870911, 0, 0, 3221225472, 7516192768, 17179869183, 34359738367] (by kernel_rfl) ?_
  refine DQ.rd rfl rfl (fun _ => rd_move (v := .slice _ _ _) rfl) ?_
  refine DQ.rd rfl rfl (fun _ => rd_ix (k := 7) Tryd.under127 Tryd.size126 rfl rfl (row_slc' (e := eW) (xs := v.l) (fun _ => rfl) (by first | rfl | omega | simp) (rfl) (Has.own 0 rfl)) rfl (by first | omega | ((try simp only [H8.len, shaK_len, sched_len, w16_len, List.length_take] at *); omega)) (by omega)) ?_
  refine DQ.rd rfl rfl (fun _ => rd_el (v := .int _ _) 7 0 Tryd.one126 rfl (row_slc' (e := eW) (xs := v.l) (fun _ => rfl) (by first | rfl | omega | simp) (rfl) (Has.own 0 rfl)) rfl (by first | omega | ((try simp only [H8.len, shaK_len, sched_len, w16_len, List.length_take] at *); omega)) (Nat.le_of_ble_eq_true rfl) rfl) ?_
  refine DQ.rd rfl rfl (fun _ => rd_move (v := .int _ _) rfl) ?_
  refine DQ.fn rfl Tryd.enters93 (c_ref02_rotated _ 6 (by decide) (by decide)) (fun _ => rfl) Reads0 ?_
  refine DQ.rd rfl rfl (fun _ => rd_move (v := .int _ _) rfl) ?_
  refine DQ.fn rfl Tryd.enters93 (c_ref02_rotated _ 11 (by decide) (by decide)) (fun _ => rfl) Reads0 ?_
  refine DQ.rd rfl rfl (fun _ => rd_xor32 rfl rfl) ?_
  refine DQ.rd rfl rfl (fun _ => rd_move (v := .int _ _) rfl) ?_
  refine DQ.fn rfl Tryd.enters93 (c_ref02_rotated _ 25 (by decide) (by decide)) (fun _ => rfl) Reads0 ?_
  refine DQ.rd rfl rfl (fun _ => rd_xor32 rfl rfl) ?_
  refine DQ.rd rfl rfl (fun _ => rd_add32 rfl rfl) ?_
  refine DQ.rd rfl rfl (fun _ => rd_move (v := .int _ _) rfl) ?_
  refine DQ.rd rfl rfl (fun _ => rd_move (v := .slice _ _ _) rfl) ?_
  refine DQ.rd rfl rfl (fun _ => rd_ix (k := 5) Tryd.under127 Tryd.size126 rfl rfl (row_slc' (e := eW) (xs := v.l) (fun _ => rfl) (by first | rfl | omega | simp) (rfl) (Has.own 0 rfl)) rfl (by first | omega | ((try simp only [H8.len, shaK_len, sched_len, w16_len, List.length_take] at *); omega)) (by omega)) ?_
  refine DQ.rd rfl rfl (fun _ => rd_el (v := .int _ _) 5 0 Tryd.one126 rfl (row_slc' (e := eW) (xs := v.l) (fun _ => rfl) (by first | rfl | omega | simp) (rfl) (Has.own 0 rfl)) rfl (by first | omega | ((try simp only [H8.len, shaK_len, sched_len, w16_len, List.length_take] at *); omega)) (Nat.le_of_ble_eq_true rfl) rfl) ?_
  refine DQ.rd rfl rfl (fun _ => rd_and32 rfl rfl) ?_
  refine DQ.rd rfl rfl (fun _ => rd_move (v := .int _ _) rfl) ?_
  refine DQ.rd rfl rfl (fun _ => rd_not32 rfl) ?_
  refine DQ.rd rfl rfl (fun _ => rd_move (v := .slice _ _ _) rfl) ?_
  refine DQ.rd rfl rfl (fun _ => rd_ix (k := 6) Tryd.under127 Tryd.size126 rfl rfl (row_slc' (e := eW) (xs := v.l) (fun _ => rfl) (by first | rfl | omega | simp) (rfl) (Has.own 0 rfl)) rfl (by first | omega | ((try simp only [H8.len, shaK_len, sched_len, w16_len, List.length_take] at *); omega)) (by omega)) ?_
  refine DQ.rd rfl rfl (fun _ => rd_el (v := .int _ _) 6 0 Tryd.one126 rfl (row_slc' (e := eW) (xs := v.l) (fun _ => rfl) (by first | rfl | omega | simp) (rfl) (Has.own 0 rfl)) rfl (by first | omega | ((try simp only [H8.len, shaK_len, sched_len, w16_len, List.length_take] at *); omega)) (Nat.le_of_ble_eq_true rfl) rfl) ?_
  refine DQ.rd rfl rfl (fun _ => rd_and32 rfl rfl) ?_
  refine DQ.rd rfl rfl (fun _ => rd_xor32 rfl rfl) ?_
  refine DQ.rd rfl rfl (fun _ => rd_add32 rfl rfl) ?_
  refine DQ.rd rfl rfl (fun _ => rd_move (v := .slice _ _ _) rfl) ?_
  refine DQ.rd rfl rfl (fun _ => rd_move (v := .int _ _) rfl) ?_
  refine DQ.rd rfl rfl (fun _ => rd_ix Tryd.under127 Tryd.size126 rfl rfl (row_slc' (e := eW) (xs := shaK) (fun _ => rfl) (by first | rfl | omega | simp) (by first | rfl | simp) (Has.own 1 rfl)) rfl (by first | omega | ((try simp only [H8.len, shaK_len, sched_len, w16_len, List.length_take] at *); omega)) (by omega)) ?_
  refine DQ.rd rfl rfl (fun _ => rd_el (v := .int _ _) _ 0 Tryd.one126 rfl (row_slc' (e := eW) (xs := shaK) (fun _ => rfl) (by first | rfl | omega | simp) (by first | rfl | simp) (Has.own 1 rfl)) rfl (by first | omega | ((try simp only [H8.len, shaK_len, sched_len, w16_len, List.length_take] at *); omega)) (Nat.le_of_ble_eq_true rfl) rfl) ?_
  refine DQ.rd rfl rfl (fun _ => rd_add32 rfl rfl) ?_
  refine DQ.rd rfl rfl (fun _ => rd_move (v := .slice _ _ _) rfl) ?_
  refine DQ.rd rfl rfl (fun _ => rd_move (v := .int _ _) rfl) ?_
  refine DQ.rd rfl rfl (fun _ => rd_ix Tryd.under127 Tryd.size126 rfl rfl (row_slc' (e := eW) (xs := wd) (fun _ => rfl) (by first | rfl | omega | simp) (rfl) (Has.own 2 rfl)) rfl (by first | omega | ((try simp only [H8.len, shaK_len, sched_len, w16_len, List.length_take] at *); omega)) (by omega)) ?_
  refine DQ.rd rfl rfl (fun _ => rd_el (v := .int _ _) _ 0 Tryd.one126 rfl (row_slc' (e := eW) (xs := wd) (fun _ => rfl) (by first | rfl | omega | simp) (rfl) (Has.own 2 rfl)) rfl (by first | omega | ((try simp only [H8.len, shaK_len, sched_len, w16_len, List.length_take] at *); omega)) (Nat.le_of_ble_eq_true rfl) rfl) ?_
  refine DQ.done rfl ?_
  refine TO.rd rfl rfl (rd_add32 rfl rfl) ?_
  refine TO.rd rfl rfl (rd_assign (v := .int _ _) rfl) ?_
  refine TO.nil ?_
  refine TQ.then_normal ?_
  refine T.seq ?_
  refine T.drawq Tryd.mixes 27 [(170, 0), (171, 1), (172, 2), (173, 3), (174, 4), (175, 5), (176, 6), (177, 7), (178, 8), (179, 9), (180, 10), (181, 11), (182, 12), (183, 13), (184, 14), (185, 15), (186, 16), (187, 17), (188, 18), (189, 19), (190, 20), (191, 21), (192, 22), (193, 23), (194, 24), (195, 25), (196, 26)] [0, 1, 0, 7, 15, 0, 47, 127, 0, 0, 512, 1536, 3840, 0, 0, 16384, 49152, 122880, 261888, 0, 524288, 1572864, 0, 4194304, 12582912, 33030144, 67108608, 134217727, 268435455] (by kernel_rfl) ?_
  refine DQ.rd rfl rfl (fun _ => rd_move (v := .int _ _) rfl) ?_
  refine DQ.fn rfl Tryd.enters93 (c_ref02_rotated _ 2 (by decide) (by decide)) (fun _ => rfl) Reads0 ?_
  refine DQ.rd rfl rfl (fun _ => rd_move (v := .int _ _) rfl) ?_
  refine DQ.fn rfl Tryd.enters93 (c_ref02_rotated _ 13 (by decide) (by decide)) (fun _ => rfl) Reads0 ?_
  refine DQ.rd rfl rfl (fun _ => rd_xor32 rfl rfl) ?_
  refine DQ.rd rfl rfl (fun _ => rd_move (v := .int _ _) rfl) ?_
  refine DQ.fn rfl Tryd.enters93 (c_ref02_rotated _ 22 (by decide) (by decide)) (fun _ => rfl) Reads0 ?_
  refine DQ.rd rfl rfl (fun _ => rd_xor32 rfl rfl) ?_
  refine DQ.rd rfl rfl (fun _ => rd_move (v := .int _ _) rfl) ?_
  refine DQ.rd rfl rfl (fun _ => rd_move (v := .slice _ _ _) rfl) ?_
  refine DQ.rd rfl rfl (fun _ => rd_ix (k := 1) Tryd.under127 Tryd.size126 rfl rfl (row_slc' (e := eW) (xs := v.l) (fun _ => rfl) (by first | rfl | omega | simp) (rfl) (Has.own 0 rfl)) rfl (by first | omega | ((try simp only [H8.len, shaK_len, sched_len, w16_len, List.length_take] at *); omega)) (by omega)) ?_
  refine DQ.rd rfl rfl (fun _ => rd_el (v := .int _ _) 1 0 Tryd.one126 rfl (row_slc' (e := eW) (xs := v.l) (fun _ => rfl) (by first | rfl | omega | simp) (rfl) (Has.own 0 rfl)) rfl (by first | omega | ((try simp only [H8.len, shaK_len, sched_len, w16_len, List.length_take] at *); omega)) (Nat.le_of_ble_eq_true rfl) rfl) ?_
  refine DQ.rd rfl rfl (fun _ => rd_and32 rfl rfl) ?_
  refine DQ.rd rfl rfl (fun _ => rd_move (v := .int _ _) rfl) ?_
  refine DQ.rd rfl rfl (fun _ => rd_move (v := .slice _ _ _) rfl) ?_
  refine DQ.rd rfl rfl (fun _ => rd_ix (k := 2) Tryd.under127 Tryd.size126 rfl rfl (row_slc' (e := eW) (xs := v.l) (fun _ => rfl) (by first | rfl | omega | simp) (rfl) (Has.own 0 rfl)) rfl (by first | omega | ((try simp only [H8.len, shaK_len, sched_len, w16_len, List.length_take] at *); omega)) (by omega)) ?_
  refine DQ.rd rfl rfl (fun _ => rd_el (v := .int _ _) 2 0 Tryd.one126 rfl (row_slc' (e := eW) (xs := v.l) (fun _ => rfl) (by first | rfl | omega | simp) (rfl) (Has.own 0 rfl)) rfl (by first | omega | ((try simp only [H8.len, shaK_len, sched_len, w16_len, List.length_take] at *); omega)) (Nat.le_of_ble_eq_true rfl) rfl) ?_
  refine DQ.rd rfl rfl (fun _ => rd_and32 rfl rfl) ?_
  refine DQ.rd rfl rfl (fun _ => rd_xor32 rfl rfl) ?_
  refine DQ.rd rfl rfl (fun _ => rd_move (v := .slice _ _ _) rfl) ?_
  refine DQ.rd rfl rfl (fun _ => rd_ix (k := 1) Tryd.under127 Tryd.size126 rfl rfl (row_slc' (e := eW) (xs := v.l) (fun _ => rfl) (by first | rfl | omega | simp) (rfl) (Has.own 0 rfl)) rfl (by first | omega | ((try simp only [H8.len, shaK_len, sched_len, w16_len, List.length_take] at *); omega)) (by omega)) ?_
  refine DQ.rd rfl rfl (fun _ => rd_el (v := .int _ _) 1 0 Tryd.one126 rfl (row_slc' (e := eW) (xs := v.l) (fun _ => rfl) (by first | rfl | omega | simp) (rfl) (Has.own 0 rfl)) rfl (by first | omega | ((try simp only [H8.len, shaK_len, sched_len, w16_len, List.length_take] at *); omega)) (Nat.le_of_ble_eq_true rfl) rfl) ?_
  refine DQ.rd rfl rfl (fun _ => rd_move (v := .slice _ _ _) rfl) ?_
  refine DQ.rd rfl rfl (fun _ => rd_ix (k := 2) Tryd.under127 Tryd.size126 rfl rfl (row_slc' (e := eW) (xs := v.l) (fun _ => rfl) (by first | rfl | omega | simp) (rfl) (Has.own 0 rfl)) rfl (by first | omega | ((try simp only [H8.len, shaK_len, sched_len, w16_len, List.length_take] at *); omega)) (by omega)) ?_
  refine DQ.rd rfl rfl (fun _ => rd_el (v := .int _ _) 2 0 Tryd.one126 rfl (row_slc' (e := eW) (xs := v.l) (fun _ => rfl) (by first | rfl | omega | simp) (rfl) (Has.own 0 rfl)) rfl (by first | omega | ((try simp only [H8.len, shaK_len, sched_len, w16_len, List.length_take] at *); omega)) (Nat.le_of_ble_eq_true rfl) rfl) ?_
  refine DQ.rd rfl rfl (fun _ => rd_and32 rfl rfl) ?_
  refine DQ.rd rfl rfl (fun _ => rd_xor32 rfl rfl) ?_
  refine DQ.done rfl ?_
  refine TO.rd rfl rfl (rd_add32 rfl rfl) ?_
  refine TO.rd rfl rfl (rd_assign (v := .int _ _) rfl) ?_
  refine TO.nil ?_
  refine TQ.then_normal ?_
  refine T.drawq Tryd.mixes 22 [(198, 0), (199, 1), (200, 2), (201, 3), (202, 4), (203, 5), (204, 6), (205, 7), (206, 8), (207, 9), (208, 10), (209, 11), (210, 12), (211, 13), (212, 14), (213, 15), (214, 16), (215, 17), (216, 18), (217, 19), (218, 20), (219, 21)] [0, 0, 3, 0, 0, 16, 48, 0, 128, 384, 0, 1024, 3072, 0, 15360, 0, 0, 65536, 196608, 0, 524288, 1572864, 4194303, 8388607] (by kernel_rfl) ?_
  refine DQ.rd rfl rfl (fun _ => rd_move (v := .int _ _) rfl) ?_
  refine DQ.rd rfl rfl (fun _ => rd_move (v := .int _ _) rfl) ?_
  refine DQ.rd rfl rfl (fun _ => rd_add32 rfl rfl) ?_
  refine DQ.rd rfl rfl (fun _ => rd_move (v := .int _ _) rfl) ?_
  refine DQ.rd rfl rfl (fun _ => rd_move (v := .slice _ _ _) rfl) ?_
  refine DQ.rd rfl rfl (fun _ => rd_ix (k := 1) Tryd.under127 Tryd.size126 rfl rfl (row_slc' (e := eW) (xs := v.l) (fun _ => rfl) (by first | rfl | omega | simp) (rfl) (Has.own 0 rfl)) rfl (by first | omega | ((try simp only [H8.len, shaK_len, sched_len, w16_len, List.length_take] at *); omega)) (by omega)) ?_
  refine DQ.rd rfl rfl (fun _ => rd_el (v := .int _ _) 1 0 Tryd.one126 rfl (row_slc' (e := eW) (xs := v.l) (fun _ => rfl) (by first | rfl | omega | simp) (rfl) (Has.own 0 rfl)) rfl (by first | omega | ((try simp only [H8.len, shaK_len, sched_len, w16_len, List.length_take] at *); omega)) (Nat.le_of_ble_eq_true rfl) rfl) ?_
  refine DQ.rd rfl rfl (fun _ => rd_move (v := .slice _ _ _) rfl) ?_
  refine DQ.rd rfl rfl (fun _ => rd_ix (k := 2) Tryd.under127 Tryd.size126 rfl rfl (row_slc' (e := eW) (xs := v.l) (fun _ => rfl) (by first | rfl | omega | simp) (rfl) (Has.own 0 rfl)) rfl (by first | omega | ((try simp only [H8.len, shaK_len, sched_len, w16_len, List.length_take] at *); omega)) (by omega)) ?_
  refine DQ.rd rfl rfl (fun _ => rd_el (v := .int _ _) 2 0 Tryd.one126 rfl (row_slc' (e := eW) (xs := v.l) (fun _ => rfl) (by first | rfl | omega | simp) (rfl) (Has.own 0 rfl)) rfl (by first | omega | ((try simp only [H8.len, shaK_len, sched_len, w16_len, List.length_take] at *); omega)) (Nat.le_of_ble_eq_true rfl) rfl) ?_
  refine DQ.rd rfl rfl (fun _ => rd_move (v := .slice _ _ _) rfl) ?_
  refine DQ.rd rfl rfl (fun _ => rd_ix (k := 3) Tryd.under127 Tryd.size126 rfl rfl (row_slc' (e := eW) (xs := v.l) (fun _ => rfl) (by first | rfl | omega | simp) (rfl) (Has.own 0 rfl)) rfl (by first | omega | ((try simp only [H8.len, shaK_len, sched_len, w16_len, List.length_take] at *); omega)) (by omega)) ?_
  refine DQ.rd rfl rfl (fun _ => rd_el (v := .int _ _) 3 0 Tryd.one126 rfl (row_slc' (e := eW) (xs := v.l) (fun _ => rfl) (by first | rfl | omega | simp) (rfl) (Has.own 0 rfl)) rfl (by first | omega | ((try simp only [H8.len, shaK_len, sched_len, w16_len, List.length_take] at *); omega)) (Nat.le_of_ble_eq_true rfl) rfl) ?_
  refine DQ.rd rfl rfl (fun _ => rd_move (v := .int _ _) rfl) ?_
  refine DQ.rd rfl rfl (fun _ => rd_add32 rfl rfl) ?_
  refine DQ.rd rfl rfl (fun _ => rd_move (v := .int _ _) rfl) ?_
  refine DQ.rd rfl rfl (fun _ => rd_move (v := .slice _ _ _) rfl) ?_
  refine DQ.rd rfl rfl (fun _ => rd_ix (k := 5) Tryd.under127 Tryd.size126 rfl rfl (row_slc' (e := eW) (xs := v.l) (fun _ => rfl) (by first | rfl | omega | simp) (rfl) (Has.own 0 rfl)) rfl (by first | omega | ((try simp only [H8.len, shaK_len, sched_len, w16_len, List.length_take] at *); omega)) (by omega)) ?_
  refine DQ.rd rfl rfl (fun _ => rd_el (v := .int _ _) 5 0 Tryd.one126 rfl (row_slc' (e := eW) (xs := v.l) (fun _ => rfl) (by first | rfl | omega | simp) (rfl) (Has.own 0 rfl)) rfl (by first | omega | ((try simp only [H8.len, shaK_len, sched_len, w16_len, List.length_take] at *); omega)) (Nat.le_of_ble_eq_true rfl) rfl) ?_
  refine DQ.rd rfl rfl (fun _ => rd_move (v := .slice _ _ _) rfl) ?_
  refine DQ.rd rfl rfl (fun _ => rd_ix (k := 6) Tryd.under127 Tryd.size126 rfl rfl (row_slc' (e := eW) (xs := v.l) (fun _ => rfl) (by first | rfl | omega | simp) (rfl) (Has.own 0 rfl)) rfl (by first | omega | ((try simp only [H8.len, shaK_len, sched_len, w16_len, List.length_take] at *); omega)) (by omega)) ?_
  refine DQ.rd rfl rfl (fun _ => rd_el (v := .int _ _) 6 0 Tryd.one126 rfl (row_slc' (e := eW) (xs := v.l) (fun _ => rfl) (by first | rfl | omega | simp) (rfl) (Has.own 0 rfl)) rfl (by first | omega | ((try simp only [H8.len, shaK_len, sched_len, w16_len, List.length_take] at *); omega)) (Nat.le_of_ble_eq_true rfl) rfl) ?_
  refine DQ.done rfl ?_
  refine TO.buildS (cs := [.int _ _, .int _ _, .int _ _, .int _ _, .int _ _, .int _ _, .int _ _, .int _ _]) Tryd.under127 Tryd.size126 Tryd.zero126 (Nat.le_of_ble_eq_true rfl) rfl (fun b24 => ?_)
  refine TO.rd rfl rfl (rd_assign (v := .slice _ _ _) rfl) ?_
  refine TO.nil ?_
  refine TQ.block_normal ?_
  refine TQ.then_normal ?_
  refine T.region ?_
  refine TO.rd rfl rfl (rd_move (v := .int _ _) rfl) ?_
  refine TO.rd rfl rfl (rd_add rfl rfl (w64 (by first | omega | ((try simp only [H8.len, shaK_len, sched_len, w16_len, List.length_take] at *); omega)) (by first | omega | ((try simp only [H8.len, shaK_len, sched_len, w16_len, List.length_take] at *); omega)))) ?_
  refine TO.rd rfl rfl (rd_assign (v := .int _ _) rfl) ?_
  refine TO.nil ?_
  refine TQ.torow0 1 8 rfl (by decide) ?_
  refine TQ.againk ((some ⟨b24, 0, none⟩), 8, k + 1, rnd v (shaK[k]'(by rw [shaK_len]; omega), wd[k]'(by omega))) ?_ ?_ (And.intro (rfl) (And.intro (rfl) (trivial))) (And.intro (rfl) (And.intro (rfl) (And.intro (rfl) (trivial)))) (fun _ _ h => h.sel (js := [0, 2, 3, 4]) (by decide))
  · exact ⟨by rw [rnds_succ hwl (by omega), ← hv], by dsimp only; omega⟩
  · first | omega | (dsimp only; omega)
end Go.Proofs
end
section
/- Facts on the types and functions that the walks of this seat use. Written by a program of this session. -/
set_option linter.unusedVariables false
set_option linter.unusedSimpArgs false
set_option maxRecDepth 100000
set_option maxHeartbeats 800000
namespace Go.Proofs
open Go.TL
attribute [local irreducible] Go.TL.T Go.TL.TO Go.TL.TQ
theorem Tryd.under88 : Tryd.prog.underlying 88 = some (.slice 3) := by kernel_rfl
theorem Tryd.zero3 : TyZero Tryd.prog 3 (.int .i64 0) := fun w => by kernel_rfl
theorem Tryd.enters48 : Enters Tryd.prog 48 := fun args w => by kernel_rfl
theorem Tryd.enters78 : Enters Tryd.prog 78 := fun args w => by kernel_rfl
end Go.Proofs
end
section
/- Walks: what functions of the program do, by contract. Written by a program of this session. -/
set_option linter.unusedVariables false
set_option linter.unusedSimpArgs false
set_option maxRecDepth 100000
set_option maxHeartbeats 800000
namespace Go.Proofs
open Go.TL
attribute [local irreducible] Go.TL.T Go.TL.TO Go.TL.TQ
/- dialtone/dialtoneref15.puts -/
theorem c_ref15_puts (A : Option Addr) (cap n : Nat) (l : List Int) (hn : n = l.length) (hl : l.length ≤ 1000) : Cv Tryd.prog 48 #[.slice A n cap] [slc eInt 1 A l] (.string (str (puts l))) := by
  subst hn
  refine Ctr.intro Tryd.func48 rfl Tryd.ntmps48 (Nat.le_of_ble_eq_true rfl) fun S0 w0 => ?_
  refine T.seq ?_
  refine T.region ?_
  refine TO.rd rfl rfl (rd_assign (v := .string _) rfl) ?_
  refine TO.nil ?_
  refine TQ.then_normal ?_
  refine T.seq ?_
  refine T.region ?_
  refine TO.rd rfl rfl (rd_assign (v := .string _) rfl) ?_
  refine TO.nil ?_
  refine TQ.then_normal ?_
  refine T.seq ?_
  refine T.seq ?_
  refine T.region ?_
  refine TO.rd rfl rfl (rd_assign (v := .int _ _) rfl) ?_
  refine TO.nil ?_
  refine TQ.then_normal ?_
  refine T.block ?_
  refine T.loop1 [0] (fun (k : Nat) => [(4, .int .i64 (k : Nat)), (3, .string (str (puts (l.take k))))]) (fun (k : Nat) => []) (fun (k : Nat) => k ≤ l.length) (fun (k : Nat) => l.length - k) (0) (Nat.zero_le _) (And.intro (rfl) (And.intro (rfl) (trivial))) (fun _ _ h => h) fun k g0 hx0 => ?_
  refine T.seq ?_
  refine T.seq ?_
  refine T.region ?_
  refine TO.rd rfl rfl (rd_move (v := .int _ _) rfl) ?_
  refine TO.rd rfl rfl (rd_move (v := .slice _ _ _) rfl) ?_
  refine TO.rd rfl rfl (rd_lensl Tryd.under88 rfl) ?_
  refine TO.rd rfl rfl (rd_lss rfl rfl) ?_
  refine TO.nil ?_
  refine TQ.then_normal ?_
  refine T.cond_ft rfl (fun h1 => ?_) (fun h1 => ?_)
  · try simp only [decide_eq_true_eq, decide_eq_false_iff_not, Bool.not_eq_true', Bool.not_eq_false', Bool.not_eq_eq_eq_not, Bool.not_true, Bool.not_false, beq_iff_eq, beq_eq_false_iff_ne, bne_iff_ne, bne_eq_false_iff_eq, ne_eq, Int.not_lt, Int.not_le, Decidable.not_not] at h1
    refine T.exit ?_
    refine TQ.then_exit ?_
    refine TQ.then_exit ?_
    refine TQ.block_out ?_
    refine TQ.then_normal ?_
    refine T.seq ?_
    refine T.region ?_
    refine TO.rd rfl rfl (rd_move (v := .string _) rfl) ?_
    refine TO.rd rfl rfl (rd_assign (v := .string _) rfl) ?_
    refine TO.nil ?_
    refine TQ.then_normal ?_
    refine T.ret ?_
    refine TQ.value ?_ (res1 Tryd.results48 (Res.tmp (v := .string _) rfl)) _ (.inl rfl)
    rw [List.take_of_length_le (by omega)]
  try simp only [decide_eq_true_eq, decide_eq_false_iff_not, Bool.not_eq_true', Bool.not_eq_false', Bool.not_eq_eq_eq_not, Bool.not_true, Bool.not_false, beq_iff_eq, beq_eq_false_iff_ne, bne_iff_ne, bne_eq_false_iff_eq, ne_eq, Int.not_lt, Int.not_le, Decidable.not_not] at h1
  refine T.skip ?_
  refine TQ.then_normal ?_
  refine T.seq ?_
  refine T.block ?_
  refine T.seq ?_
  refine T.region ?_
  refine TO.rd rfl rfl (rd_move (v := .slice _ _ _) rfl) ?_
  refine TO.rd rfl rfl (rd_move (v := .int _ _) rfl) ?_
  refine TO.rd rfl rfl (rd_ix Tryd.under88 Tryd.size3 rfl rfl (Has.arg 0 rfl) rfl (by omega) (by omega)) ?_
  refine TO.rd rfl rfl (rd_el (v := .int _ _) _ 0 Tryd.one3 rfl (Has.arg 0 rfl) rfl (by omega) (Nat.le_of_ble_eq_true rfl) rfl) ?_
  refine TO.fn Tryd.enters78 (c_ref01_PutInt _) rfl Reads0 ?_
  refine TO.rd rfl rfl (rd_move (v := .tuple _) rfl) ?_
  refine TO.rd rfl rfl (rd_extract (v := .string _) (vs := _) rfl rfl) ?_
  refine TO.rd rfl rfl (rd_extract (v := .int _ _) (vs := _) rfl rfl) ?_
  refine TO.rd rfl rfl (rd_assign (v := .string _) rfl) ?_
  refine TO.rd rfl rfl (rd_assign (v := .int _ _) rfl) ?_
  refine TO.nil ?_
  refine TQ.then_normal ?_
  refine T.region ?_
  refine TO.rd rfl rfl (rd_move (v := .string _) rfl) ?_
  refine TO.rd rfl rfl (rd_move (v := .string _) rfl) ?_
  refine TO.rd rfl rfl (rd_cat' (c := puts (l.take (k + 1))) rfl rfl (by have h1 := puts_length (l.take k); have h2 := putInt_length (l[k]'(by omega)); rw [List.length_take] at h1; omega) (by rw [← take_snoc (by omega), puts_snoc])) ?_
  refine TO.rd rfl rfl (rd_assign (v := .string _) rfl) ?_
  refine TO.nil ?_
  refine TQ.block_normal ?_
  refine TQ.then_normal ?_
  refine T.region ?_
  refine TO.rd rfl rfl (rd_move (v := .int _ _) rfl) ?_
  refine TO.rd rfl rfl (rd_add rfl rfl (w64 (by omega) (by omega))) ?_
  refine TO.rd rfl rfl (rd_assign (v := .int _ _) rfl) ?_
  refine TO.nil ?_
  refine TQ.againk (k + 1) ?_ ?_ (And.intro (rfl) (And.intro (rfl) (trivial))) (And.intro (rfl) (trivial)) (fun _ _ h => h)
  · first | omega | (dsimp only; omega)
  · first | omega | (dsimp only; omega)
/- dialtone/dialtoneref15.ProxyContent -/
theorem c_ref15_ProxyContent (p : Proxy) : Cv Tryd.prog 20 #[proxyV p] [] (.string (str (proxyText p))) := by
  refine Ctr.intro Tryd.func20 rfl Tryd.ntmps20 (Nat.le_of_ble_eq_true rfl) fun S0 w0 => ?_
  refine T.seq ?_
  refine T.region ?_
  refine TO.box (v := .agg #[.int _ _, .int _ _, .int _ _, .int _ _, .int _ _, .int _ _, .string _]) rfl (fun b1 => ?_)
  refine TO.rd rfl rfl (rd_assign (v := .string _) rfl) ?_
  refine TO.nil ?_
  refine TQ.then_normal ?_
  refine T.seq ?_
  refine T.region ?_
  refine TO.rd rfl rfl (rd_fieldAddr Tryd.field41_0 rfl) ?_
  refine TO.rd rfl rfl (rd_load (v := .int _ _) Tryd.one3 rfl (Has.own 0 rfl) rfl) ?_
  refine TO.rd rfl rfl (rd_fieldAddr Tryd.field41_1 rfl) ?_
  refine TO.rd rfl rfl (rd_load (v := .int _ _) Tryd.one3 rfl (Has.own 0 rfl) rfl) ?_
  refine TO.rd rfl rfl (rd_fieldAddr Tryd.field41_2 rfl) ?_
  refine TO.rd rfl rfl (rd_fieldAddr Tryd.field28_0 rfl) ?_
  refine TO.rd rfl rfl (rd_load (v := .int _ _) Tryd.one3 rfl (Has.own 0 rfl) rfl) ?_
  refine TO.rd rfl rfl (rd_fieldAddr Tryd.field41_2 rfl) ?_
  refine TO.rd rfl rfl (rd_fieldAddr Tryd.field28_1 rfl) ?_
  refine TO.rd rfl rfl (rd_load (v := .int _ _) Tryd.one3 rfl (Has.own 0 rfl) rfl) ?_
  refine TO.rd rfl rfl (rd_fieldAddr Tryd.field41_3 rfl) ?_
  refine TO.rd rfl rfl (rd_fieldAddr Tryd.field29_0 rfl) ?_
  refine TO.rd rfl rfl (rd_load (v := .int _ _) Tryd.one3 rfl (Has.own 0 rfl) rfl) ?_
  refine TO.rd rfl rfl (rd_fieldAddr Tryd.field41_3 rfl) ?_
  refine TO.rd rfl rfl (rd_fieldAddr Tryd.field29_1 rfl) ?_
  refine TO.rd rfl rfl (rd_load (v := .int _ _) Tryd.one3 rfl (Has.own 0 rfl) rfl) ?_
  refine TO.buildS (cs := [.int _ _, .int _ _, .int _ _, .int _ _, .int _ _, .int _ _, .int _ _]) Tryd.under88 Tryd.size3 Tryd.zero3 (Nat.le_of_ble_eq_true rfl) rfl (fun b2 => ?_)
  refine TO.fn Tryd.enters48 (c_ref15_puts _ _ _ [2, p.frm, p.to, p.rlo, p.rhi, p.slo, p.shi] (by first | rfl | simp | omega) (by simp)) rfl (ReadsC (own_slc (e := eInt) [2, p.frm, p.to, p.rlo, p.rhi, p.slo, p.shi] rfl (fun _ => rfl) (Has.own 0 rfl) (by simp)) Reads0) ?_
  refine TO.rd rfl rfl (rd_assign (v := .string _) rfl) ?_
  refine TO.nil ?_
  refine TQ.then_normal ?_
  refine T.ret ?_
  refine TQ.value ?_ (res1 Tryd.results20 (Res.tmp (v := .string _) rfl)) _ (.inl rfl)
  rfl
/- dialtone/dialtoneref15.WishContent -/
theorem c_ref15_WishContent (w : Wish) : Cv Tryd.prog 19 #[wishV w] [] (.string (str (wishText w))) := by
  refine Ctr.intro Tryd.func19 rfl Tryd.ntmps19 (Nat.le_of_ble_eq_true rfl) fun S0 w0 => ?_
  refine T.seq ?_
  refine T.region ?_
  refine TO.box (v := .agg #[.int _ _, .int _ _, .int _ _, .int _ _, .int _ _, .int _ _, .int _ _, .int _ _, .string _]) rfl (fun b1 => ?_)
  refine TO.rd rfl rfl (rd_assign (v := .string _) rfl) ?_
  refine TO.nil ?_
  refine TQ.then_normal ?_
  refine T.seq ?_
  refine T.region ?_
  refine TO.rd rfl rfl (rd_fieldAddr Tryd.field31_0 rfl) ?_
  refine TO.rd rfl rfl (rd_load (v := .int _ _) Tryd.one3 rfl (Has.own 0 rfl) rfl) ?_
  refine TO.rd rfl rfl (rd_fieldAddr Tryd.field31_1 rfl) ?_
  refine TO.rd rfl rfl (rd_load (v := .int _ _) Tryd.one3 rfl (Has.own 0 rfl) rfl) ?_
  refine TO.rd rfl rfl (rd_fieldAddr Tryd.field31_2 rfl) ?_
  refine TO.rd rfl rfl (rd_fieldAddr Tryd.field28_0 rfl) ?_
  refine TO.rd rfl rfl (rd_load (v := .int _ _) Tryd.one3 rfl (Has.own 0 rfl) rfl) ?_
  refine TO.rd rfl rfl (rd_fieldAddr Tryd.field31_2 rfl) ?_
  refine TO.rd rfl rfl (rd_fieldAddr Tryd.field28_1 rfl) ?_
  refine TO.rd rfl rfl (rd_load (v := .int _ _) Tryd.one3 rfl (Has.own 0 rfl) rfl) ?_
  refine TO.rd rfl rfl (rd_fieldAddr Tryd.field31_3 rfl) ?_
  refine TO.rd rfl rfl (rd_load (v := .int _ _) Tryd.one3 rfl (Has.own 0 rfl) rfl) ?_
  refine TO.rd rfl rfl (rd_fieldAddr Tryd.field31_4 rfl) ?_
  refine TO.rd rfl rfl (rd_load (v := .int _ _) Tryd.one3 rfl (Has.own 0 rfl) rfl) ?_
  refine TO.rd rfl rfl (rd_fieldAddr Tryd.field31_5 rfl) ?_
  refine TO.rd rfl rfl (rd_fieldAddr Tryd.field29_0 rfl) ?_
  refine TO.rd rfl rfl (rd_load (v := .int _ _) Tryd.one3 rfl (Has.own 0 rfl) rfl) ?_
  refine TO.rd rfl rfl (rd_fieldAddr Tryd.field31_5 rfl) ?_
  refine TO.rd rfl rfl (rd_fieldAddr Tryd.field29_1 rfl) ?_
  refine TO.rd rfl rfl (rd_load (v := .int _ _) Tryd.one3 rfl (Has.own 0 rfl) rfl) ?_
  refine TO.buildS (cs := [.int _ _, .int _ _, .int _ _, .int _ _, .int _ _, .int _ _, .int _ _, .int _ _, .int _ _]) Tryd.under88 Tryd.size3 Tryd.zero3 (Nat.le_of_ble_eq_true rfl) rfl (fun b2 => ?_)
  refine TO.fn Tryd.enters48 (c_ref15_puts _ _ _ [1, w.signer, w.holder, w.rlo, w.rhi, w.carrier, w.serial, w.slo, w.shi] (by first | rfl | simp | omega) (by simp)) rfl (ReadsC (own_slc (e := eInt) [1, w.signer, w.holder, w.rlo, w.rhi, w.carrier, w.serial, w.slo, w.shi] rfl (fun _ => rfl) (Has.own 0 rfl) (by simp)) Reads0) ?_
  refine TO.rd rfl rfl (rd_assign (v := .string _) rfl) ?_
  refine TO.nil ?_
  refine TQ.then_normal ?_
  refine T.ret ?_
  refine TQ.value ?_ (res1 Tryd.results19 (Res.tmp (v := .string _) rfl)) _ (.inl rfl)
  rfl
/- dialtone/dialtoneref15.AccountContent -/
theorem c_ref15_AccountContent (n e : Int) : Cv Tryd.prog 28 #[.int .i64 n, .int .i64 e] [] (.string (str (puts [3, n, e]))) := by
  refine Ctr.intro Tryd.func28 rfl Tryd.ntmps28 (Nat.le_of_ble_eq_true rfl) fun S0 w0 => ?_
  refine T.seq ?_
  refine T.region ?_
  refine TO.rd rfl rfl (rd_assign (v := .string _) rfl) ?_
  refine TO.nil ?_
  refine TQ.then_normal ?_
  refine T.seq ?_
  refine T.region ?_
  refine TO.rd rfl rfl (rd_move (v := .int _ _) rfl) ?_
  refine TO.rd rfl rfl (rd_move (v := .int _ _) rfl) ?_
  refine TO.buildS (cs := [.int _ _, .int _ _, .int _ _]) Tryd.under88 Tryd.size3 Tryd.zero3 (Nat.le_of_ble_eq_true rfl) rfl (fun b1 => ?_)
  refine TO.fn Tryd.enters48 (c_ref15_puts _ _ _ [3, n, e] (by first | rfl | simp | omega) (by simp)) rfl (ReadsC (own_slc (e := eInt) [3, n, e] rfl (fun _ => rfl) (Has.own 0 rfl) (by simp)) Reads0) ?_
  refine TO.rd rfl rfl (rd_assign (v := .string _) rfl) ?_
  refine TO.nil ?_
  refine TQ.then_normal ?_
  refine T.ret ?_
  refine TQ.value ?_ (res1 Tryd.results28 (Res.tmp (v := .string _) rfl)) _ (.inl rfl)
  rfl
end Go.Proofs
end
section
/- Walks: what functions of the program do, by contract. Written by a program of this session. -/
set_option linter.unusedVariables false
set_option linter.unusedSimpArgs false
set_option maxRecDepth 100000
set_option maxHeartbeats 800000
namespace Go.Proofs
open Go.TL
attribute [local irreducible] Go.TL.T Go.TL.TO Go.TL.TQ
/- dialtone/dialtoneref02.Sum -/
theorem c_ref02_Sum (s : Bytes) (hs : s.length ≤ 1000000000000) : Cv Tryd.prog 49 #[.string (str s)] [] (.string (str (sha s))) := by
  refine Ctr.intro Tryd.func49 rfl Tryd.ntmps49 (Nat.le_of_ble_eq_true rfl) fun S0 w0 => ?_
  refine T.seq ?_
  refine T.region ?_
  refine TO.rd rfl rfl (rd_assign (v := .string _) rfl) ?_
  refine TO.nil ?_
  refine TQ.then_normal ?_
  refine T.seq ?_
  refine T.region ?_
  refine TO.buildS (cs := [.int _ _, .int _ _, .int _ _, .int _ _, .int _ _, .int _ _, .int _ _, .int _ _]) Tryd.under127 Tryd.size126 Tryd.zero126 (Nat.le_of_ble_eq_true rfl) rfl (fun b1 => ?_)
  refine TO.rd rfl rfl (rd_assign (v := .slice _ _ _) rfl) ?_
  refine TO.nil ?_
  refine TQ.then_normal ?_
  refine T.seq ?_
  refine T.region ?_
  refine TO.rd rfl rfl (rd_move (v := .string _) rfl) ?_
  refine TO.fnx Tryd.enters79 (c_ref02_extended _ (by omega)) rfl Reads0 (fun ⟨A2, cap3⟩ hx4 => ?_)
  replace hx4 : (pad s).length ≤ cap3 := hx4
  refine TO.rd rfl rfl (rd_assign (v := .slice _ _ _) rfl) ?_
  refine TO.nil ?_
  refine TQ.then_normal ?_
  refine T.seq ?_
  refine T.seq ?_
  refine T.region ?_
  refine TO.rd rfl rfl (rd_assign (v := .int _ _) rfl) ?_
  refine TO.nil ?_
  refine TQ.then_normal ?_
  refine T.block ?_
  refine T.front1 ?_
  refine T.torow0 1 8 rfl (by decide) ?_
  have hp64 := pad_len s
  have hpl := pad_le s
  refine T.loop4 [4] (fun (A1 : Option Addr) (cap1 : Nat) (q : Nat) (h : H8) => [(3, .slice A1 8 cap1), (5, .int .i64 ((64 * q : Nat) : Int))]) (fun (A1 : Option Addr) (cap1 : Nat) (q : Nat) (h : H8) => [row 126 1 A1 8 cap1 (h.l.flatMap eW)]) (fun (A1 : Option Addr) (cap1 : Nat) (q : Nat) (h : H8) => shaBlocks ((pad s).length / 64 - q) h ((pad s).drop (64 * q)) = shaBlocks ((pad s).length / 64) shaH (pad s) ∧ 64 * q ≤ (pad s).length) (fun (A1 : Option Addr) (cap1 : Nat) (q : Nat) (h : H8) => (pad s).length - 64 * q) ((some ⟨b1, 0, none⟩)) (8) (0) (shaH) (⟨by rw [Nat.mul_zero, Nat.sub_zero, List.drop_zero], Nat.zero_le _⟩) (And.intro (rfl) (And.intro (rfl) (trivial))) (fun _ _ h => h) fun A1 cap1 q h g0 hx0 => ?_
  obtain ⟨hB, hq⟩ := hx0
  refine T.seq ?_
  refine T.seq ?_
  refine T.region ?_
  refine TO.rd rfl rfl (rd_move (v := .int _ _) rfl) ?_
  refine TO.rd rfl rfl (rd_move (v := .slice _ _ _) rfl) ?_
  refine TO.rd rfl rfl (rd_lensl Tryd.under71 rfl) ?_
  refine TO.rd rfl rfl (rd_lss rfl rfl) ?_
  refine TO.nil ?_
  refine TQ.then_normal ?_
  refine T.cond rfl (fun h6 => ?_) (fun h6 => ?_)
  · try simp only [decide_eq_true_eq, decide_eq_false_iff_not, Bool.not_eq_true', Bool.not_eq_false', Bool.not_eq_eq_eq_not, Bool.not_true, Bool.not_false, beq_iff_eq, beq_eq_false_iff_ne, bne_iff_ne, bne_eq_false_iff_eq, ne_eq, Int.not_lt, Int.not_le, Decidable.not_not] at h6
    refine T.skip ?_
    refine TQ.then_normal ?_
    refine T.seq ?_
    refine T.block ?_
    refine T.region ?_
    refine TO.rd rfl rfl (rd_move (v := .slice _ _ _) rfl) ?_
    refine TO.rd rfl rfl (rd_move (v := .slice _ _ _) rfl) ?_
    refine TO.rd rfl rfl (rd_move (v := .int _ _) rfl) ?_
    refine TO.rd rfl rfl (rd_move (v := .int _ _) rfl) ?_
    refine TO.rd rfl rfl (rd_add rfl rfl (w64 (by first | omega | (have := pad_le s; omega)) (by first | omega | (have := pad_le s; omega)))) ?_
    refine TO.rd rfl rfl (rd_sub_slice (i := 64 * q) (j := 64 * q + 64) Tryd.under71 Tryd.size5 rfl (.inr ⟨_, rfl⟩) (.inr ⟨_, rfl⟩) (by omega) (by omega) (by omega)) ?_
    refine TO.fnx Tryd.enters80 (c_ref02_block _ _ _ h.l (by first | rfl | (simp only [List.length_drop, List.length_take]; omega)) _ _ _ (((pad s).take (64 * q + 64)).drop (64 * q)) (by first | rfl | (simp only [List.length_drop, List.length_take]; omega)) _ rfl (by first | rfl | (simp only [List.length_drop, List.length_take]; omega))) rfl (ReadsC (row_slc' (e := eW) (xs := h.l) (fun _ => rfl) (by first | rfl | omega | simp) (rfl) (Has.own 0 rfl)) (ReadsC (slc_sub (i := 64 * q) (j := 64 * q + 64) (cap := cap3) (row_slc' (e := eByte) (xs := (pad s)) (fun _ => rfl) (rfl) (bytesC_flat _) (Has.own 1 rfl)) (by omega) (by omega) (by omega)) Reads0)) (fun ⟨A7, cap8⟩ hx9 => ?_)
    refine TO.rd rfl rfl (rd_assign (v := .slice _ _ _) rfl) ?_
    refine TO.nil ?_
    refine TQ.block_normal ?_
    refine TQ.then_normal ?_
    refine T.region ?_
    refine TO.rd rfl rfl (rd_move (v := .int _ _) rfl) ?_
    refine TO.rd rfl rfl (rd_add rfl rfl (w64 (by first | omega | (have := pad_le s; omega)) (by first | omega | (have := pad_le s; omega)))) ?_
    refine TO.rd rfl rfl (rd_assign (v := .int _ _) rfl) ?_
    refine TO.nil ?_
    refine TQ.againk (A7, cap8, q + 1, shaBlock h (((pad s).take (64 * q + 64)).drop (64 * q))) ?_ ?_ (And.intro (rfl) (And.intro (rfl) (trivial))) (And.intro (rfl) (trivial)) (fun _ _ h => h.sel (js := [0, 2]) (by decide))
    · refine ⟨?_, by dsimp only; omega⟩
      rw [← hB, show (pad s).length / 64 - q = ((pad s).length / 64 - (q + 1)) + 1 by omega, shaBlocks_succ, List.drop_drop, List.drop_take]
      dsimp only
      rw [show 64 * q + 64 - 64 * q = 64 by omega]
      rfl
    · first | omega | (dsimp only; omega)
  try simp only [decide_eq_true_eq, decide_eq_false_iff_not, Bool.not_eq_true', Bool.not_eq_false', Bool.not_eq_eq_eq_not, Bool.not_true, Bool.not_false, beq_iff_eq, beq_eq_false_iff_ne, bne_iff_ne, bne_eq_false_iff_eq, ne_eq, Int.not_lt, Int.not_le, Decidable.not_not] at h6
  refine T.exit ?_
  refine TQ.then_exit ?_
  refine TQ.then_exit ?_
  refine TQ.block_out ?_
  refine TQ.then_normal ?_
  refine T.seq ?_
  refine T.region ?_
  refine TO.rd rfl rfl (rd_assign (v := .slice none 0 0) rfl) ?_
  refine TO.newrow 5 1 ?_
  refine TO.nil ?_
  refine TQ.then_normal ?_
  refine T.seq ?_
  refine T.seq ?_
  refine T.region ?_
  refine TO.rd rfl rfl (rd_assign (v := .int _ _) rfl) ?_
  refine TO.nil ?_
  refine TQ.then_normal ?_
  refine T.block ?_
  have hH : h = shaBlocks ((pad s).length / 64) shaH (pad s) := by
    rw [show (pad s).length / 64 - q = 0 by omega] at hB; rw [← hB]; rfl
  have hl8 : h.l.length = 8 := rfl
  refine T.loop3 [3] (fun (A2 : Option Addr) (cap2 : Nat) (k : Nat) => [(6, .slice A2 (4 * k) cap2), (7, .int .i64 (k : Nat))]) (fun (A2 : Option Addr) (cap2 : Nat) (k : Nat) => [row 5 1 A2 (4 * k) cap2 (bytesC ((h.l.take k).flatMap be4))]) (fun (A2 : Option Addr) (cap2 : Nat) (k : Nat) => k ≤ 8) (fun (A2 : Option Addr) (cap2 : Nat) (k : Nat) => 8 - k) (none) (0) (0) (Nat.zero_le _) (And.intro (rfl) (And.intro (rfl) (trivial))) (fun _ _ h => h) fun A2 cap2 k g1 hx1 => ?_
  refine T.seq ?_
  refine T.seq ?_
  refine T.region ?_
  refine TO.rd rfl rfl (rd_move (v := .int _ _) rfl) ?_
  refine TO.rd rfl rfl (rd_lss rfl rfl) ?_
  refine TO.nil ?_
  refine TQ.then_normal ?_
  refine T.cond_ft rfl (fun h12 => ?_) (fun h12 => ?_)
  · try simp only [decide_eq_true_eq, decide_eq_false_iff_not, Bool.not_eq_true', Bool.not_eq_false', Bool.not_eq_eq_eq_not, Bool.not_true, Bool.not_false, beq_iff_eq, beq_eq_false_iff_ne, bne_iff_ne, bne_eq_false_iff_eq, ne_eq, Int.not_lt, Int.not_le, Decidable.not_not] at h12
    refine T.exit ?_
    refine TQ.then_exit ?_
    refine TQ.then_exit ?_
    refine TQ.block_out ?_
    refine TQ.then_normal ?_
    refine T.seq ?_
    refine T.region ?_
    refine TO.rd rfl rfl (rd_move (v := .slice _ _ _) rfl) ?_
    refine TO.rd rfl rfl (rd_row_str Tryd.under71 Tryd.under5 Tryd.under9 rfl (Has.own 0 rfl)) ?_
    refine TO.rd rfl rfl (rd_assign (v := .string _) rfl) ?_
    refine TO.nil ?_
    refine TQ.then_normal ?_
    refine T.ret ?_
    refine TQ.value ?_ (res1 Tryd.results49 (Res.tmp (v := .string _) rfl)) _ (.inl rfl)
    rw [sha, ← hH, List.take_of_length_le (by omega)]
  try simp only [decide_eq_true_eq, decide_eq_false_iff_not, Bool.not_eq_true', Bool.not_eq_false', Bool.not_eq_eq_eq_not, Bool.not_true, Bool.not_false, beq_iff_eq, beq_eq_false_iff_ne, bne_iff_ne, bne_eq_false_iff_eq, ne_eq, Int.not_lt, Int.not_le, Decidable.not_not] at h12
  refine T.skip ?_
  refine TQ.then_normal ?_
  refine T.seq ?_
  refine T.block ?_
  refine T.drawg Tryd.mixes 25 [(28, 0), (29, 1), (30, 2), (31, 3), (32, 4), (33, 5), (34, 6), (35, 7), (36, 8), (37, 9), (38, 10), (39, 11), (40, 12), (41, 13), (42, 14), (43, 15), (44, 16), (45, 17), (46, 18), (47, 19), (48, 20), (49, 21), (50, 22), (51, 23), (52, 24)] [0, 0, 0, 6, 14, 30, 62, 0, 0, 384, 896, 1920, 3968, 0, 0, 24576, 57344, 122880, 253952, 0, 0, 1572864, 3670016, 7864320, 16777214, 33554431, 67108863] [24] (by kernel_rfl) ?_
  refine DG.rd rfl rfl rfl (fun _ _ => rd_move (v := .slice _ _ _) rfl) ?_
  refine DG.rd rfl rfl rfl (fun _ _ => rd_move (v := .slice _ _ _) rfl) ?_
  refine DG.rd rfl rfl rfl (fun _ _ => rd_move (v := .int _ _) rfl) ?_
  refine DG.rd rfl rfl rfl (fun _ _ => rd_ix Tryd.under127 Tryd.size126 rfl rfl (row_slc' (e := eW) (xs := h.l) (fun _ => rfl) (by first | rfl | omega | simp) (rfl) (Has.own 1 rfl)) rfl (by first | omega | (have := pad_le s; omega)) (by first | omega | (have := pad_le s; omega))) ?_
  refine DG.rd rfl rfl rfl (fun _ _ => rd_el (v := .int _ _) _ 0 Tryd.one126 rfl (row_slc' (e := eW) (xs := h.l) (fun _ => rfl) (by first | rfl | omega | simp) (rfl) (Has.own 1 rfl)) rfl (by first | omega | (have := pad_le s; omega)) (Nat.le_of_ble_eq_true rfl) rfl) ?_
  refine DG.rd rfl rfl rfl (fun _ _ => rd_shr32 (k := 24) rfl rfl (rfl) (by decide)) ?_
  refine DG.rd rfl rfl rfl (fun _ _ => rd_conv32_8 Tryd.isome126 Tryd.under5 rfl) ?_
  refine DG.rd rfl rfl rfl (fun _ _ => rd_move (v := .slice _ _ _) rfl) ?_
  refine DG.rd rfl rfl rfl (fun _ _ => rd_move (v := .int _ _) rfl) ?_
  refine DG.rd rfl rfl rfl (fun _ _ => rd_ix Tryd.under127 Tryd.size126 rfl rfl (row_slc' (e := eW) (xs := h.l) (fun _ => rfl) (by first | rfl | omega | simp) (rfl) (Has.own 1 rfl)) rfl (by first | omega | (have := pad_le s; omega)) (by first | omega | (have := pad_le s; omega))) ?_
  refine DG.rd rfl rfl rfl (fun _ _ => rd_el (v := .int _ _) _ 0 Tryd.one126 rfl (row_slc' (e := eW) (xs := h.l) (fun _ => rfl) (by first | rfl | omega | simp) (rfl) (Has.own 1 rfl)) rfl (by first | omega | (have := pad_le s; omega)) (Nat.le_of_ble_eq_true rfl) rfl) ?_
  refine DG.rd rfl rfl rfl (fun _ _ => rd_shr32 (k := 16) rfl rfl (rfl) (by decide)) ?_
  refine DG.rd rfl rfl rfl (fun _ _ => rd_conv32_8 Tryd.isome126 Tryd.under5 rfl) ?_
  refine DG.rd rfl rfl rfl (fun _ _ => rd_move (v := .slice _ _ _) rfl) ?_
  refine DG.rd rfl rfl rfl (fun _ _ => rd_move (v := .int _ _) rfl) ?_
  refine DG.rd rfl rfl rfl (fun _ _ => rd_ix Tryd.under127 Tryd.size126 rfl rfl (row_slc' (e := eW) (xs := h.l) (fun _ => rfl) (by first | rfl | omega | simp) (rfl) (Has.own 1 rfl)) rfl (by first | omega | (have := pad_le s; omega)) (by first | omega | (have := pad_le s; omega))) ?_
  refine DG.rd rfl rfl rfl (fun _ _ => rd_el (v := .int _ _) _ 0 Tryd.one126 rfl (row_slc' (e := eW) (xs := h.l) (fun _ => rfl) (by first | rfl | omega | simp) (rfl) (Has.own 1 rfl)) rfl (by first | omega | (have := pad_le s; omega)) (Nat.le_of_ble_eq_true rfl) rfl) ?_
  refine DG.rd rfl rfl rfl (fun _ _ => rd_shr32 (k := 8) rfl rfl (rfl) (by decide)) ?_
  refine DG.rd rfl rfl rfl (fun _ _ => rd_conv32_8 Tryd.isome126 Tryd.under5 rfl) ?_
  refine DG.rd rfl rfl rfl (fun _ _ => rd_move (v := .slice _ _ _) rfl) ?_
  refine DG.rd rfl rfl rfl (fun _ _ => rd_move (v := .int _ _) rfl) ?_
  refine DG.rd rfl rfl rfl (fun _ _ => rd_ix Tryd.under127 Tryd.size126 rfl rfl (row_slc' (e := eW) (xs := h.l) (fun _ => rfl) (by first | rfl | omega | simp) (rfl) (Has.own 1 rfl)) rfl (by first | omega | (have := pad_le s; omega)) (by first | omega | (have := pad_le s; omega))) ?_
  refine DG.rd rfl rfl rfl (fun _ _ => rd_el (v := .int _ _) _ 0 Tryd.one126 rfl (row_slc' (e := eW) (xs := h.l) (fun _ => rfl) (by first | rfl | omega | simp) (rfl) (Has.own 1 rfl)) rfl (by first | omega | (have := pad_le s; omega)) (Nat.le_of_ble_eq_true rfl) rfl) ?_
  refine DG.rd rfl rfl rfl (fun _ _ => rd_conv32_8 Tryd.isome126 Tryd.under5 rfl) ?_
  refine DG.buildS (cs := [.int _ _, .int _ _, .int _ _, .int _ _]) rfl rfl Tryd.under71 Tryd.size5 Tryd.zero5 (Nat.le_of_ble_eq_true rfl) (fun _ _ => rfl) ?_
  refine DG.done rfl (by decide) rfl (fun gh14 => ?_)
  refine TO.front1 ?_
  refine TO.app Tryd.trow5 Tryd.under71 (.inl ⟨_, Tryd.under71⟩) rfl rfl (Src.own1 1 rfl rfl) rfl rfl (by omega) (fun A15 c16 hc17 => ?_)
  refine TO.row_eq (cs' := bytesC ((h.l.take (k + 1)).flatMap be4)) rfl (by rw [← take_snoc (by omega), List.flatMap_append, bytesC_append]; rfl) ?_
  refine TO.rd rfl rfl (rd_assign (v := .slice _ _ _) rfl) ?_
  refine TO.nil ?_
  refine TQ.block_normal ?_
  refine TQ.then_normal ?_
  refine T.region ?_
  refine TO.rd rfl rfl (rd_move (v := .int _ _) rfl) ?_
  refine TO.rd rfl rfl (rd_add rfl rfl (w64 (by first | omega | (have := pad_le s; omega)) (by first | omega | (have := pad_le s; omega)))) ?_
  refine TO.rd rfl rfl (rd_assign (v := .int _ _) rfl) ?_
  refine TO.nil ?_
  refine TQ.againk (A15, c16, k + 1) ?_ ?_ (And.intro (rfl) (And.intro (rfl) (trivial))) (And.intro (rfl) (trivial)) (fun _ _ h => h.sel (js := [0, 2, 3]) (by decide))
  · first | omega | (dsimp only; omega)
  · first | omega | (dsimp only; omega)
/- dialtone/dialtoneref02.Leaf -/
theorem c_ref02_Leaf (s : Bytes) (hs : s.length ≤ 900000000000) : Cv Tryd.prog 50 #[.string (str s)] [] (.string (str (leafOf s))) := by
  refine Ctr.intro Tryd.func50 rfl Tryd.ntmps50 (Nat.le_of_ble_eq_true rfl) fun S0 w0 => ?_
  refine T.seq ?_
  refine T.region ?_
  refine TO.rd rfl rfl (rd_assign (v := .string _) rfl) ?_
  refine TO.nil ?_
  refine TQ.then_normal ?_
  refine T.seq ?_
  refine T.region ?_
  refine TO.rd rfl rfl (rd_move (v := .string _) rfl) ?_
  refine TO.rd rfl rfl (rd_cat' rfl rfl (by first | omega | exact wishText_le _ | exact proxyText_le _ | exact puts3_le _ _ _ | (simp only [List.length_append, List.length_cons, List.length_nil, sha_len, leafOf_len, nodeOf_len, sealOf_len, List.length_take, List.length_drop]; omega) | (rw [keyB_len]; omega)) rfl) ?_
  refine TO.fn Tryd.enters49 (c_ref02_Sum _ (by first | omega | exact wishText_le _ | exact proxyText_le _ | exact puts3_le _ _ _ | (simp only [List.length_append, List.length_cons, List.length_nil, sha_len, leafOf_len, nodeOf_len, sealOf_len, List.length_take, List.length_drop]; omega) | (rw [keyB_len]; omega))) rfl Reads0 ?_
  refine TO.rd rfl rfl (rd_assign (v := .string _) rfl) ?_
  refine TO.nil ?_
  refine TQ.then_normal ?_
  refine T.ret ?_
  refine TQ.value ?_ (res1 Tryd.results50 (Res.tmp (v := .string _) rfl)) _ (.inl rfl)
  rfl
/- dialtone/dialtoneref02.Node -/
theorem c_ref02_Node (a b : Bytes) (ha : a.length ≤ 400000000000) (hb : b.length ≤ 400000000000) : Cv Tryd.prog 90 #[.string (str a), .string (str b)] [] (.string (str (nodeOf a b))) := by
  refine Ctr.intro Tryd.func90 rfl Tryd.ntmps90 (Nat.le_of_ble_eq_true rfl) fun S0 w0 => ?_
  refine T.seq ?_
  refine T.region ?_
  refine TO.rd rfl rfl (rd_assign (v := .string _) rfl) ?_
  refine TO.nil ?_
  refine TQ.then_normal ?_
  refine T.seq ?_
  refine T.region ?_
  refine TO.rd rfl rfl (rd_move (v := .string _) rfl) ?_
  refine TO.rd rfl rfl (rd_cat' rfl rfl (by first | omega | exact wishText_le _ | exact proxyText_le _ | exact puts3_le _ _ _ | (simp only [List.length_append, List.length_cons, List.length_nil, sha_len, leafOf_len, nodeOf_len, sealOf_len, List.length_take, List.length_drop]; omega) | (rw [keyB_len]; omega)) rfl) ?_
  refine TO.rd rfl rfl (rd_move (v := .string _) rfl) ?_
  refine TO.rd rfl rfl (rd_cat' rfl rfl (by first | omega | exact wishText_le _ | exact proxyText_le _ | exact puts3_le _ _ _ | (simp only [List.length_append, List.length_cons, List.length_nil, sha_len, leafOf_len, nodeOf_len, sealOf_len, List.length_take, List.length_drop]; omega) | (rw [keyB_len]; omega)) rfl) ?_
  refine TO.fn Tryd.enters49 (c_ref02_Sum _ (by first | omega | exact wishText_le _ | exact proxyText_le _ | exact puts3_le _ _ _ | (simp only [List.length_append, List.length_cons, List.length_nil, sha_len, leafOf_len, nodeOf_len, sealOf_len, List.length_take, List.length_drop]; omega) | (rw [keyB_len]; omega))) rfl Reads0 ?_
  refine TO.rd rfl rfl (rd_assign (v := .string _) rfl) ?_
  refine TO.nil ?_
  refine TQ.then_normal ?_
  refine T.ret ?_
  refine TQ.value ?_ (res1 Tryd.results90 (Res.tmp (v := .string _) rfl)) _ (.inl rfl)
  rfl
/- dialtone/dialtoneref15.Seal -/
theorem c_ref15_Seal (a b : Bytes) (ha : a.length ≤ 400000000000) (hb : b.length ≤ 400000000000) : Cv Tryd.prog 70 #[.string (str a), .string (str b)] [] (.string (str (sealOf a b))) := by
  refine Ctr.intro Tryd.func70 rfl Tryd.ntmps70 (Nat.le_of_ble_eq_true rfl) fun S0 w0 => ?_
  refine T.seq ?_
  refine T.region ?_
  refine TO.rd rfl rfl (rd_assign (v := .string _) rfl) ?_
  refine TO.nil ?_
  refine TQ.then_normal ?_
  refine T.seq ?_
  refine T.region ?_
  refine TO.rd rfl rfl (rd_move (v := .string _) rfl) ?_
  refine TO.rd rfl rfl (rd_move (v := .string _) rfl) ?_
  refine TO.fn Tryd.enters50 (c_ref02_Leaf _ (by first | omega | exact wishText_le _ | exact proxyText_le _ | exact puts3_le _ _ _ | (simp only [List.length_append, List.length_cons, List.length_nil, sha_len, leafOf_len, nodeOf_len, sealOf_len, List.length_take, List.length_drop]; omega) | (rw [keyB_len]; omega))) rfl Reads0 ?_
  refine TO.fn Tryd.enters90 (c_ref02_Node _ _ (by first | omega | exact wishText_le _ | exact proxyText_le _ | exact puts3_le _ _ _ | (simp only [List.length_append, List.length_cons, List.length_nil, sha_len, leafOf_len, nodeOf_len, sealOf_len, List.length_take, List.length_drop]; omega) | (rw [keyB_len]; omega)) (by first | omega | exact wishText_le _ | exact proxyText_le _ | exact puts3_le _ _ _ | (simp only [List.length_append, List.length_cons, List.length_nil, sha_len, leafOf_len, nodeOf_len, sealOf_len, List.length_take, List.length_drop]; omega) | (rw [keyB_len]; omega))) rfl Reads0 ?_
  refine TO.rd rfl rfl (rd_assign (v := .string _) rfl) ?_
  refine TO.nil ?_
  refine TQ.then_normal ?_
  refine T.ret ?_
  refine TQ.value ?_ (res1 Tryd.results70 (Res.tmp (v := .string _) rfl)) _ (.inl rfl)
  rfl
end Go.Proofs
end
section
/- Walks: what functions of the program do, by contract. Written by a program of this session. -/
set_option linter.unusedVariables false
set_option linter.unusedSimpArgs false
set_option maxRecDepth 100000
set_option maxHeartbeats 800000
namespace Go.Proofs
open Go.TL
attribute [local irreducible] Go.TL.T Go.TL.TO Go.TL.TQ
/- dialtone/dialtoneref15.pick -/
theorem c_ref15_pick (c n : Int) (c0 : -9223372036854775808 ≤ c) (c1 : c ≤ 9223372036854775807) (hn0 : 0 < n) (hn1 : n ≤ 9223372036854775807) : Cv Tryd.prog 35 #[.int .i64 c, .int .i64 n] [] (.int .i64 (pickN c n)) := by
  refine Ctr.intro Tryd.func35 rfl Tryd.ntmps35 (Nat.le_of_ble_eq_true rfl) fun S0 w0 => ?_
  refine T.seq ?_
  refine T.region ?_
  refine TO.rd rfl rfl (rd_assign (v := .int _ _) rfl) ?_
  refine TO.nil ?_
  refine TQ.then_normal ?_
  refine T.seq ?_
  refine T.seq ?_
  refine T.region ?_
  refine TO.rd rfl rfl (rd_move (v := .int _ _) rfl) ?_
  refine TO.rd rfl rfl (rd_lss rfl rfl) ?_
  refine TO.nil ?_
  refine TQ.then_normal ?_
  refine T.cond_ft rfl (fun h1 => ?_) (fun h1 => ?_)
  · try simp only [decide_eq_true_eq, decide_eq_false_iff_not, Bool.not_eq_true', Bool.not_eq_false', Bool.not_eq_eq_eq_not, Bool.not_true, Bool.not_false, beq_iff_eq, beq_eq_false_iff_ne, bne_iff_ne, bne_eq_false_iff_eq, ne_eq, Int.not_lt, Int.not_le, Decidable.not_not] at h1
    refine T.skip ?_
    refine TQ.then_normal ?_
    refine T.seq ?_
    refine T.region ?_
    refine TO.rd rfl rfl (rd_move (v := .int _ _) rfl) ?_
    refine TO.rd rfl rfl (rd_move (v := .int _ _) rfl) ?_
    refine TO.rd rfl rfl (rd_rem rfl rfl (by omega) (Int.tmod_eq_emod_of_nonneg (by omega))) ?_
    refine TO.rd rfl rfl (rd_assign (v := .int _ _) rfl) ?_
    refine TO.nil ?_
    refine TQ.then_normal ?_
    refine T.ret ?_
    refine TQ.value ?_ (res1 Tryd.results35 (Res.tmp (v := .int _ _) rfl)) _ (.inl rfl)
    rw [pickN, if_neg (by omega)]
  try simp only [decide_eq_true_eq, decide_eq_false_iff_not, Bool.not_eq_true', Bool.not_eq_false', Bool.not_eq_eq_eq_not, Bool.not_true, Bool.not_false, beq_iff_eq, beq_eq_false_iff_ne, bne_iff_ne, bne_eq_false_iff_eq, ne_eq, Int.not_lt, Int.not_le, Decidable.not_not] at h1
  refine T.region ?_
  refine TO.rd rfl rfl (rd_move (v := .int _ _) rfl) ?_
  refine TO.rd rfl rfl (rd_add rfl rfl (w64 (by omega) (by omega))) ?_
  refine TO.rd rfl rfl (rd_neg rfl (w64 (by omega) (by omega))) ?_
  refine TO.rd rfl rfl (rd_assign (v := .int _ _) rfl) ?_
  refine TO.nil ?_
  refine TQ.then_normal ?_
  refine T.seq ?_
  refine T.region ?_
  refine TO.rd rfl rfl (rd_move (v := .int _ _) rfl) ?_
  refine TO.rd rfl rfl (rd_move (v := .int _ _) rfl) ?_
  refine TO.rd rfl rfl (rd_rem rfl rfl (by omega) (Int.tmod_eq_emod_of_nonneg (by omega))) ?_
  refine TO.rd rfl rfl (rd_assign (v := .int _ _) rfl) ?_
  refine TO.nil ?_
  refine TQ.then_normal ?_
  refine T.ret ?_
  refine TQ.value ?_ (res1 Tryd.results35 (Res.tmp (v := .int _ _) rfl)) _ (.inl rfl)
  rw [pickN, if_pos (by omega)]; congr 1; congr 1; omega
/- dialtone/dialtonelaw15.pick -/
theorem c_law15_pick (c n : Int) (c0 : -9223372036854775808 ≤ c) (c1 : c ≤ 9223372036854775807) (hn0 : 0 < n) (hn1 : n ≤ 9223372036854775807) : Cv Tryd.prog 16 #[.int .i64 c, .int .i64 n] [] (.int .i64 (pickN c n)) := by
  refine Ctr.intro Tryd.func16 rfl Tryd.ntmps16 (Nat.le_of_ble_eq_true rfl) fun S0 w0 => ?_
  refine T.seq ?_
  refine T.region ?_
  refine TO.rd rfl rfl (rd_assign (v := .int _ _) rfl) ?_
  refine TO.nil ?_
  refine TQ.then_normal ?_
  refine T.seq ?_
  refine T.seq ?_
  refine T.region ?_
  refine TO.rd rfl rfl (rd_move (v := .int _ _) rfl) ?_
  refine TO.rd rfl rfl (rd_lss rfl rfl) ?_
  refine TO.nil ?_
  refine TQ.then_normal ?_
  refine T.cond_ft rfl (fun h1 => ?_) (fun h1 => ?_)
  · try simp only [decide_eq_true_eq, decide_eq_false_iff_not, Bool.not_eq_true', Bool.not_eq_false', Bool.not_eq_eq_eq_not, Bool.not_true, Bool.not_false, beq_iff_eq, beq_eq_false_iff_ne, bne_iff_ne, bne_eq_false_iff_eq, ne_eq, Int.not_lt, Int.not_le, Decidable.not_not] at h1
    refine T.skip ?_
    refine TQ.then_normal ?_
    refine T.seq ?_
    refine T.region ?_
    refine TO.rd rfl rfl (rd_move (v := .int _ _) rfl) ?_
    refine TO.rd rfl rfl (rd_move (v := .int _ _) rfl) ?_
    refine TO.rd rfl rfl (rd_rem rfl rfl (by omega) (Int.tmod_eq_emod_of_nonneg (by omega))) ?_
    refine TO.rd rfl rfl (rd_assign (v := .int _ _) rfl) ?_
    refine TO.nil ?_
    refine TQ.then_normal ?_
    refine T.ret ?_
    refine TQ.value ?_ (res1 Tryd.results16 (Res.tmp (v := .int _ _) rfl)) _ (.inl rfl)
    rw [pickN, if_neg (by omega)]
  try simp only [decide_eq_true_eq, decide_eq_false_iff_not, Bool.not_eq_true', Bool.not_eq_false', Bool.not_eq_eq_eq_not, Bool.not_true, Bool.not_false, beq_iff_eq, beq_eq_false_iff_ne, bne_iff_ne, bne_eq_false_iff_eq, ne_eq, Int.not_lt, Int.not_le, Decidable.not_not] at h1
  refine T.region ?_
  refine TO.rd rfl rfl (rd_move (v := .int _ _) rfl) ?_
  refine TO.rd rfl rfl (rd_add rfl rfl (w64 (by omega) (by omega))) ?_
  refine TO.rd rfl rfl (rd_neg rfl (w64 (by omega) (by omega))) ?_
  refine TO.rd rfl rfl (rd_assign (v := .int _ _) rfl) ?_
  refine TO.nil ?_
  refine TQ.then_normal ?_
  refine T.seq ?_
  refine T.region ?_
  refine TO.rd rfl rfl (rd_move (v := .int _ _) rfl) ?_
  refine TO.rd rfl rfl (rd_move (v := .int _ _) rfl) ?_
  refine TO.rd rfl rfl (rd_rem rfl rfl (by omega) (Int.tmod_eq_emod_of_nonneg (by omega))) ?_
  refine TO.rd rfl rfl (rd_assign (v := .int _ _) rfl) ?_
  refine TO.nil ?_
  refine TQ.then_normal ?_
  refine T.ret ?_
  refine TQ.value ?_ (res1 Tryd.results16 (Res.tmp (v := .int _ _) rfl)) _ (.inl rfl)
  rw [pickN, if_pos (by omega)]; congr 1; congr 1; omega
/- dialtone/dialtoneref15.narrowed -/
theorem c_ref15_narrowed (a b l r : Int) (ha : 0 ≤ a) (hab : a < b) (hb : b ≤ 1000000000000) (l0 : -9223372036854775808 ≤ l) (l1 : l ≤ 9223372036854775807) (r0 : -9223372036854775808 ≤ r) (r1 : r ≤ 9223372036854775807) : Cv Tryd.prog 37 #[.int .i64 a, .int .i64 b, .int .i64 l, .int .i64 r] [] (.tuple #[.int .i64 (narrowA a b l), .int .i64 (narrowB a b l r)]) := by
  refine Ctr.intro Tryd.func37 rfl Tryd.ntmps37 (Nat.le_of_ble_eq_true rfl) fun S0 w0 => ?_
  refine T.seq ?_
  refine T.region ?_
  refine TO.rd rfl rfl (rd_assign (v := .int _ _) rfl) ?_
  refine TO.rd rfl rfl (rd_assign (v := .int _ _) rfl) ?_
  refine TO.nil ?_
  refine TQ.then_normal ?_
  refine T.seq ?_
  refine T.region ?_
  refine TO.rd rfl rfl (rd_move (v := .int _ _) rfl) ?_
  refine TO.rd rfl rfl (rd_move (v := .int _ _) rfl) ?_
  refine TO.rd rfl rfl (rd_move (v := .int _ _) rfl) ?_
  refine TO.rd rfl rfl (rd_move (v := .int _ _) rfl) ?_
  refine TO.rd rfl rfl (rd_sub rfl rfl (w64 (by omega) (by omega))) ?_
  refine TO.fn Tryd.enters35 (c_ref15_pick _ _ (by omega) (by omega) (by omega) (by omega)) rfl Reads0 ?_
  have e1 := pickN_lo (c := l) (n := b - a) (by omega)
  have e2 := pickN_hi (c := l) (n := b - a) (by omega)
  refine TO.rd rfl rfl (rd_add rfl rfl (w64 (by omega) (by omega))) ?_
  refine TO.rd rfl rfl (rd_assign (v := .int _ _) rfl) ?_
  refine TO.nil ?_
  refine TQ.then_normal ?_
  refine T.seq ?_
  refine T.region ?_
  refine TO.rd rfl rfl (rd_move (v := .int _ _) rfl) ?_
  refine TO.rd rfl rfl (rd_move (v := .int _ _) rfl) ?_
  refine TO.rd rfl rfl (rd_move (v := .int _ _) rfl) ?_
  refine TO.rd rfl rfl (rd_move (v := .int _ _) rfl) ?_
  refine TO.rd rfl rfl (rd_move (v := .int _ _) rfl) ?_
  refine TO.rd rfl rfl (rd_sub rfl rfl (w64 (by omega) (by omega))) ?_
  refine TO.fn Tryd.enters35 (c_ref15_pick _ _ (by omega) (by omega) (by omega) (by omega)) rfl Reads0 ?_
  have e3 := pickN_lo (c := r) (n := b - (a + pickN l (b - a))) (by omega)
  have e4 := pickN_hi (c := r) (n := b - (a + pickN l (b - a))) (by omega)
  refine TO.rd rfl rfl (rd_sub rfl rfl (w64 (by omega) (by omega))) ?_
  refine TO.rd rfl rfl (rd_assign (v := .int _ _) rfl) ?_
  refine TO.rd rfl rfl (rd_assign (v := .int _ _) rfl) ?_
  refine TO.nil ?_
  refine TQ.then_normal ?_
  refine T.ret ?_
  refine TQ.value ?_ (res2 Tryd.results37 (Res.tmp (v := .int _ _) rfl) (Res.tmp (v := .int _ _) rfl)) _ (.inl rfl)
  rfl
end Go.Proofs
end
section
/- Walks: what functions of the program do, by contract. Written by a program of this session. -/
set_option linter.unusedVariables false
set_option linter.unusedSimpArgs false
set_option maxRecDepth 100000
set_option maxHeartbeats 800000
namespace Go.Proofs
open Go.TL
attribute [local irreducible] Go.TL.T Go.TL.TO Go.TL.TQ
/- dialtone/dialtoneref15.SignWish -/
theorem c_ref15_SignWish (k : Bytes) (w : Wish) (hk : k.length ≤ 1000000000) : Cv Tryd.prog 38 #[.string (str k), wishV w] [] (.tuple #[wishV (signW k w).1, .int .i64 (signW k w).2]) := by
  refine Ctr.intro Tryd.func38 rfl Tryd.ntmps38 (Nat.le_of_ble_eq_true rfl) fun S0 w0 => ?_
  refine T.seq ?_
  refine T.region ?_
  refine TO.box (v := .agg #[.int _ _, .int _ _, .int _ _, .int _ _, .int _ _, .int _ _, .int _ _, .int _ _, .string _]) rfl (fun b1 => ?_)
  refine TO.alloc Tryd.zero31 (fun b2 => ?_)
  refine TO.rd rfl rfl (rd_assign (v := .int _ _) rfl) ?_
  refine TO.nil ?_
  refine TQ.then_normal ?_
  refine T.seq ?_
  refine T.seq ?_
  refine T.region ?_
  refine TO.rd rfl rfl (rd_move (v := .string _) rfl) ?_
  refine TO.rd rfl rfl (rd_lens' Tryd.under9 rfl) ?_
  refine TO.rd rfl rfl (rd_neq rfl rfl) ?_
  refine TO.rd rfl rfl (rd_move (v := .bool _) rfl) ?_
  refine TO.decide (s := 9) rfl (fun h3 => ?_) (fun h3 => ?_)
  · try simp only [decide_eq_true_eq, decide_eq_false_iff_not, Bool.not_eq_true', Bool.not_eq_false', Bool.not_eq_eq_eq_not, Bool.not_true, Bool.not_false, beq_iff_eq, beq_eq_false_iff_ne, bne_iff_ne, bne_eq_false_iff_eq, ne_eq, Int.not_lt, Int.not_le, Decidable.not_not] at h3
    refine TO.guard_false (s := 9) (b' := true) rfl rfl nofun ?_
    refine TO.guard_false (s := 9) (b' := true) rfl rfl nofun ?_
    refine TO.guard_false (s := 9) (b' := true) rfl rfl nofun ?_
    refine TO.rd rfl rfl (rd_pick_true (v := .bool _) rfl rfl) ?_
    refine TO.nil ?_
    refine TQ.then_normal ?_
    refine T.cond_true rfl ?_
    refine T.seq ?_
    refine T.region ?_
    refine TO.rd rfl rfl (rd_build (cs := [.int _ _, .int _ _, .int _ _, .int _ _, .int _ _, .int _ _, .int _ _, .int _ _, .string _]) Tryd.places31 Tryd.zero31 rfl rfl) ?_
    refine TO.store0 (cells' := #[.int _ _, .int _ _, .int _ _, .int _ _, .int _ _, .int _ _, .int _ _, .int _ _, .string _]) Tryd.size31 rfl (v := .agg #[.int _ _, .int _ _, .int _ _, .int _ _, .int _ _, .int _ _, .int _ _, .int _ _, .string _]) rfl rfl rfl (Nat.le_of_ble_eq_true rfl) rfl ?_
    refine TO.rd rfl rfl (rd_assign (v := .int _ _) rfl) ?_
    refine TO.nil ?_
    refine TQ.then_normal ?_
    refine T.ret ?_
    refine TQ.then_ret ?_
    refine TQ.value ?_ (res2 Tryd.results38 (Res.cells (cs := #[.int _ _, .int _ _, .int _ _, .int _ _, .int _ _, .int _ _, .int _ _, .int _ _, .string _]) Tryd.agg31 rfl (Has.own 0 rfl) rfl rfl) (Res.tmp (v := .int _ _) rfl)) _ (.inl rfl)
    rw [signW, if_neg (by rintro ⟨e1, e2⟩; first | omega | simp_all)]; rfl
  try simp only [decide_eq_true_eq, decide_eq_false_iff_not, Bool.not_eq_true', Bool.not_eq_false', Bool.not_eq_eq_eq_not, Bool.not_true, Bool.not_false, beq_iff_eq, beq_eq_false_iff_ne, bne_iff_ne, bne_eq_false_iff_eq, ne_eq, Int.not_lt, Int.not_le, Decidable.not_not] at h3
  refine TO.guard_true (s := 9) rfl rfl ?_
  refine TO.rd rfl rfl (rd_load_agg (cs := #[.int _ _, .int _ _, .int _ _, .int _ _, .int _ _, .int _ _, .int _ _, .int _ _, .string _]) Tryd.agg31 rfl (Has.own 1 rfl) rfl rfl) ?_
  refine TO.guard_true (s := 9) rfl rfl ?_
  refine TO.fn Tryd.enters71 (c_ref15_wish _) rfl Reads0 ?_
  refine TO.guard_true (s := 9) rfl rfl ?_
  refine TO.rd rfl rfl (rd_not rfl) ?_
  refine TO.rd rfl rfl (rd_pick_false (v := .bool _) rfl rfl) ?_
  refine TO.nil ?_
  refine TQ.then_normal ?_
  refine T.cond rfl (fun h4 => ?_) (fun h4 => ?_)
  · try simp only [decide_eq_true_eq, decide_eq_false_iff_not, Bool.not_eq_true', Bool.not_eq_false', Bool.not_eq_eq_eq_not, Bool.not_true, Bool.not_false, beq_iff_eq, beq_eq_false_iff_ne, bne_iff_ne, bne_eq_false_iff_eq, ne_eq, Int.not_lt, Int.not_le, Decidable.not_not] at h4
    refine T.seq ?_
    refine T.region ?_
    refine TO.rd rfl rfl (rd_build (cs := [.int _ _, .int _ _, .int _ _, .int _ _, .int _ _, .int _ _, .int _ _, .int _ _, .string _]) Tryd.places31 Tryd.zero31 rfl rfl) ?_
    refine TO.store0 (cells' := #[.int _ _, .int _ _, .int _ _, .int _ _, .int _ _, .int _ _, .int _ _, .int _ _, .string _]) Tryd.size31 rfl (v := .agg #[.int _ _, .int _ _, .int _ _, .int _ _, .int _ _, .int _ _, .int _ _, .int _ _, .string _]) rfl rfl rfl (Nat.le_of_ble_eq_true rfl) rfl ?_
    refine TO.rd rfl rfl (rd_assign (v := .int _ _) rfl) ?_
    refine TO.nil ?_
    refine TQ.then_normal ?_
    refine T.ret ?_
    refine TQ.then_ret ?_
    refine TQ.value ?_ (res2 Tryd.results38 (Res.cells (cs := #[.int _ _, .int _ _, .int _ _, .int _ _, .int _ _, .int _ _, .int _ _, .int _ _, .string _]) Tryd.agg31 rfl (Has.own 0 rfl) rfl rfl) (Res.tmp (v := .int _ _) rfl)) _ (.inl rfl)
    rw [signW, if_neg (by rintro ⟨e1, e2⟩; first | omega | simp_all)]; rfl
  try simp only [decide_eq_true_eq, decide_eq_false_iff_not, Bool.not_eq_true', Bool.not_eq_false', Bool.not_eq_eq_eq_not, Bool.not_true, Bool.not_false, beq_iff_eq, beq_eq_false_iff_ne, bne_iff_ne, bne_eq_false_iff_eq, ne_eq, Int.not_lt, Int.not_le, Decidable.not_not] at h4
  refine T.skip ?_
  refine TQ.then_normal ?_
  refine T.seq ?_
  refine T.region ?_
  refine TO.rd rfl rfl (rd_move (v := .string _) rfl) ?_
  refine TO.rd rfl rfl (rd_load_agg (cs := #[.int _ _, .int _ _, .int _ _, .int _ _, .int _ _, .int _ _, .int _ _, .int _ _, .string _]) Tryd.agg31 rfl (Has.own 1 rfl) rfl rfl) ?_
  refine TO.fn Tryd.enters19 (c_ref15_WishContent _) rfl Reads0 ?_
  refine TO.fn Tryd.enters70 (c_ref15_Seal _ _ (by first | omega | exact wishText_le _ | exact proxyText_le _ | exact puts3_le _ _ _ | (simp only [List.length_append, List.length_cons, List.length_nil, sha_len, leafOf_len, nodeOf_len, sealOf_len, List.length_take, List.length_drop]; omega) | (rw [keyB_len]; omega)) (by first | omega | exact wishText_le _ | exact proxyText_le _ | exact puts3_le _ _ _ | (simp only [List.length_append, List.length_cons, List.length_nil, sha_len, leafOf_len, nodeOf_len, sealOf_len, List.length_take, List.length_drop]; omega) | (rw [keyB_len]; omega))) rfl Reads0 ?_
  refine TO.rd rfl rfl (rd_fieldAddr Tryd.field31_6 rfl) ?_
  refine TO.front1 ?_
  refine TO.store0 (cells' := #[.int _ _, .int _ _, .int _ _, .int _ _, .int _ _, .int _ _, .int _ _, .int _ _, .string _]) Tryd.size9 rfl (v := .string _) rfl rfl rfl (Nat.le_of_ble_eq_true rfl) rfl ?_
  refine TO.nil ?_
  refine TQ.then_normal ?_
  refine T.seq ?_
  refine T.region ?_
  refine TO.rd rfl rfl (rd_load_agg (cs := #[.int _ _, .int _ _, .int _ _, .int _ _, .int _ _, .int _ _, .int _ _, .int _ _, .string _]) Tryd.agg31 rfl (Has.own 0 rfl) rfl rfl) ?_
  refine TO.front1 ?_
  refine TO.store0 (cells' := #[.int _ _, .int _ _, .int _ _, .int _ _, .int _ _, .int _ _, .int _ _, .int _ _, .string _]) Tryd.size31 rfl (v := .agg #[.int _ _, .int _ _, .int _ _, .int _ _, .int _ _, .int _ _, .int _ _, .int _ _, .string _]) rfl rfl rfl (Nat.le_of_ble_eq_true rfl) rfl ?_
  refine TO.rd rfl rfl (rd_assign (v := .int _ _) rfl) ?_
  refine TO.nil ?_
  refine TQ.then_normal ?_
  refine T.ret ?_
  refine TQ.value ?_ (res2 Tryd.results38 (Res.cells (cs := #[.int _ _, .int _ _, .int _ _, .int _ _, .int _ _, .int _ _, .int _ _, .int _ _, .string _]) Tryd.agg31 rfl (Has.own 0 rfl) rfl rfl) (Res.tmp (v := .int _ _) rfl)) _ (.inl rfl)
  rw [signW, if_pos ⟨by omega, by simp_all⟩]; rfl
/- dialtone/dialtoneref15.SignProxy -/
theorem c_ref15_SignProxy (k : Bytes) (w : Proxy) (hk : k.length ≤ 1000000000) : Cv Tryd.prog 36 #[.string (str k), proxyV w] [] (.tuple #[proxyV (signP k w).1, .int .i64 (signP k w).2]) := by
  refine Ctr.intro Tryd.func36 rfl Tryd.ntmps36 (Nat.le_of_ble_eq_true rfl) fun S0 w0 => ?_
  refine T.seq ?_
  refine T.region ?_
  refine TO.box (v := .agg #[.int _ _, .int _ _, .int _ _, .int _ _, .int _ _, .int _ _, .string _]) rfl (fun b1 => ?_)
  refine TO.alloc Tryd.zero41 (fun b2 => ?_)
  refine TO.rd rfl rfl (rd_assign (v := .int _ _) rfl) ?_
  refine TO.nil ?_
  refine TQ.then_normal ?_
  refine T.seq ?_
  refine T.seq ?_
  refine T.region ?_
  refine TO.rd rfl rfl (rd_move (v := .string _) rfl) ?_
  refine TO.rd rfl rfl (rd_lens' Tryd.under9 rfl) ?_
  refine TO.rd rfl rfl (rd_neq rfl rfl) ?_
  refine TO.rd rfl rfl (rd_move (v := .bool _) rfl) ?_
  refine TO.decide (s := 9) rfl (fun h3 => ?_) (fun h3 => ?_)
  · try simp only [decide_eq_true_eq, decide_eq_false_iff_not, Bool.not_eq_true', Bool.not_eq_false', Bool.not_eq_eq_eq_not, Bool.not_true, Bool.not_false, beq_iff_eq, beq_eq_false_iff_ne, bne_iff_ne, bne_eq_false_iff_eq, ne_eq, Int.not_lt, Int.not_le, Decidable.not_not] at h3
    refine TO.guard_false (s := 9) (b' := true) rfl rfl nofun ?_
    refine TO.guard_false (s := 9) (b' := true) rfl rfl nofun ?_
    refine TO.guard_false (s := 9) (b' := true) rfl rfl nofun ?_
    refine TO.rd rfl rfl (rd_pick_true (v := .bool _) rfl rfl) ?_
    refine TO.nil ?_
    refine TQ.then_normal ?_
    refine T.cond_true rfl ?_
    refine T.seq ?_
    refine T.region ?_
    refine TO.rd rfl rfl (rd_build (cs := [.int _ _, .int _ _, .int _ _, .int _ _, .int _ _, .int _ _, .string _]) Tryd.places41 Tryd.zero41 rfl rfl) ?_
    refine TO.store0 (cells' := #[.int _ _, .int _ _, .int _ _, .int _ _, .int _ _, .int _ _, .string _]) Tryd.size41 rfl (v := .agg #[.int _ _, .int _ _, .int _ _, .int _ _, .int _ _, .int _ _, .string _]) rfl rfl rfl (Nat.le_of_ble_eq_true rfl) rfl ?_
    refine TO.rd rfl rfl (rd_assign (v := .int _ _) rfl) ?_
    refine TO.nil ?_
    refine TQ.then_normal ?_
    refine T.ret ?_
    refine TQ.then_ret ?_
    refine TQ.value ?_ (res2 Tryd.results36 (Res.cells (cs := #[.int _ _, .int _ _, .int _ _, .int _ _, .int _ _, .int _ _, .string _]) Tryd.agg41 rfl (Has.own 0 rfl) rfl rfl) (Res.tmp (v := .int _ _) rfl)) _ (.inl rfl)
    rw [signP, if_neg (by rintro ⟨e1, e2⟩; first | omega | simp_all)]; rfl
  try simp only [decide_eq_true_eq, decide_eq_false_iff_not, Bool.not_eq_true', Bool.not_eq_false', Bool.not_eq_eq_eq_not, Bool.not_true, Bool.not_false, beq_iff_eq, beq_eq_false_iff_ne, bne_iff_ne, bne_eq_false_iff_eq, ne_eq, Int.not_lt, Int.not_le, Decidable.not_not] at h3
  refine TO.guard_true (s := 9) rfl rfl ?_
  refine TO.rd rfl rfl (rd_load_agg (cs := #[.int _ _, .int _ _, .int _ _, .int _ _, .int _ _, .int _ _, .string _]) Tryd.agg41 rfl (Has.own 1 rfl) rfl rfl) ?_
  refine TO.guard_true (s := 9) rfl rfl ?_
  refine TO.fn Tryd.enters69 (c_ref15_proxy _) rfl Reads0 ?_
  refine TO.guard_true (s := 9) rfl rfl ?_
  refine TO.rd rfl rfl (rd_not rfl) ?_
  refine TO.rd rfl rfl (rd_pick_false (v := .bool _) rfl rfl) ?_
  refine TO.nil ?_
  refine TQ.then_normal ?_
  refine T.cond rfl (fun h4 => ?_) (fun h4 => ?_)
  · try simp only [decide_eq_true_eq, decide_eq_false_iff_not, Bool.not_eq_true', Bool.not_eq_false', Bool.not_eq_eq_eq_not, Bool.not_true, Bool.not_false, beq_iff_eq, beq_eq_false_iff_ne, bne_iff_ne, bne_eq_false_iff_eq, ne_eq, Int.not_lt, Int.not_le, Decidable.not_not] at h4
    refine T.seq ?_
    refine T.region ?_
    refine TO.rd rfl rfl (rd_build (cs := [.int _ _, .int _ _, .int _ _, .int _ _, .int _ _, .int _ _, .string _]) Tryd.places41 Tryd.zero41 rfl rfl) ?_
    refine TO.store0 (cells' := #[.int _ _, .int _ _, .int _ _, .int _ _, .int _ _, .int _ _, .string _]) Tryd.size41 rfl (v := .agg #[.int _ _, .int _ _, .int _ _, .int _ _, .int _ _, .int _ _, .string _]) rfl rfl rfl (Nat.le_of_ble_eq_true rfl) rfl ?_
    refine TO.rd rfl rfl (rd_assign (v := .int _ _) rfl) ?_
    refine TO.nil ?_
    refine TQ.then_normal ?_
    refine T.ret ?_
    refine TQ.then_ret ?_
    refine TQ.value ?_ (res2 Tryd.results36 (Res.cells (cs := #[.int _ _, .int _ _, .int _ _, .int _ _, .int _ _, .int _ _, .string _]) Tryd.agg41 rfl (Has.own 0 rfl) rfl rfl) (Res.tmp (v := .int _ _) rfl)) _ (.inl rfl)
    rw [signP, if_neg (by rintro ⟨e1, e2⟩; first | omega | simp_all)]; rfl
  try simp only [decide_eq_true_eq, decide_eq_false_iff_not, Bool.not_eq_true', Bool.not_eq_false', Bool.not_eq_eq_eq_not, Bool.not_true, Bool.not_false, beq_iff_eq, beq_eq_false_iff_ne, bne_iff_ne, bne_eq_false_iff_eq, ne_eq, Int.not_lt, Int.not_le, Decidable.not_not] at h4
  refine T.skip ?_
  refine TQ.then_normal ?_
  refine T.seq ?_
  refine T.region ?_
  refine TO.rd rfl rfl (rd_move (v := .string _) rfl) ?_
  refine TO.rd rfl rfl (rd_load_agg (cs := #[.int _ _, .int _ _, .int _ _, .int _ _, .int _ _, .int _ _, .string _]) Tryd.agg41 rfl (Has.own 1 rfl) rfl rfl) ?_
  refine TO.fn Tryd.enters20 (c_ref15_ProxyContent _) rfl Reads0 ?_
  refine TO.fn Tryd.enters70 (c_ref15_Seal _ _ (by first | omega | exact wishText_le _ | exact proxyText_le _ | exact puts3_le _ _ _ | (simp only [List.length_append, List.length_cons, List.length_nil, sha_len, leafOf_len, nodeOf_len, sealOf_len, List.length_take, List.length_drop]; omega) | (rw [keyB_len]; omega)) (by first | omega | exact wishText_le _ | exact proxyText_le _ | exact puts3_le _ _ _ | (simp only [List.length_append, List.length_cons, List.length_nil, sha_len, leafOf_len, nodeOf_len, sealOf_len, List.length_take, List.length_drop]; omega) | (rw [keyB_len]; omega))) rfl Reads0 ?_
  refine TO.rd rfl rfl (rd_fieldAddr Tryd.field41_4 rfl) ?_
  refine TO.front1 ?_
  refine TO.store0 (cells' := #[.int _ _, .int _ _, .int _ _, .int _ _, .int _ _, .int _ _, .string _]) Tryd.size9 rfl (v := .string _) rfl rfl rfl (Nat.le_of_ble_eq_true rfl) rfl ?_
  refine TO.nil ?_
  refine TQ.then_normal ?_
  refine T.seq ?_
  refine T.region ?_
  refine TO.rd rfl rfl (rd_load_agg (cs := #[.int _ _, .int _ _, .int _ _, .int _ _, .int _ _, .int _ _, .string _]) Tryd.agg41 rfl (Has.own 0 rfl) rfl rfl) ?_
  refine TO.front1 ?_
  refine TO.store0 (cells' := #[.int _ _, .int _ _, .int _ _, .int _ _, .int _ _, .int _ _, .string _]) Tryd.size41 rfl (v := .agg #[.int _ _, .int _ _, .int _ _, .int _ _, .int _ _, .int _ _, .string _]) rfl rfl rfl (Nat.le_of_ble_eq_true rfl) rfl ?_
  refine TO.rd rfl rfl (rd_assign (v := .int _ _) rfl) ?_
  refine TO.nil ?_
  refine TQ.then_normal ?_
  refine T.ret ?_
  refine TQ.value ?_ (res2 Tryd.results36 (Res.cells (cs := #[.int _ _, .int _ _, .int _ _, .int _ _, .int _ _, .int _ _, .string _]) Tryd.agg41 rfl (Has.own 0 rfl) rfl rfl) (Res.tmp (v := .int _ _) rfl)) _ (.inl rfl)
  rw [signP, if_pos ⟨by omega, by simp_all⟩]; rfl
end Go.Proofs
end
section
/- Walks: what functions of the program do, by contract. Written by a program of this session. -/
set_option linter.unusedVariables false
set_option linter.unusedSimpArgs false
set_option maxRecDepth 100000
set_option maxHeartbeats 800000
namespace Go.Proofs
open Go.TL
attribute [local irreducible] Go.TL.T Go.TL.TO Go.TL.TQ
/- dialtone/dialtoneref15.Key -/
theorem c_ref15_Key (h : Int) : Cv Tryd.prog 13 #[.int .i64 h] [] (.string (str (keyB h))) := by
  refine Ctr.intro Tryd.func13 rfl Tryd.ntmps13 (Nat.le_of_ble_eq_true rfl) fun S0 w0 => ?_
  refine T.seq ?_
  refine T.region ?_
  refine TO.rd rfl rfl (rd_assign (v := .string _) rfl) ?_
  refine TO.nil ?_
  refine TQ.then_normal ?_
  refine T.seq ?_
  refine T.region ?_
  refine TO.make (k := 32) Tryd.trow5 Tryd.zero5 Tryd.under71 rfl rfl rfl (by decide) (by decide) (fun b1 => ?_)
  refine TO.rd rfl rfl (rd_assign (v := .slice _ _ _) rfl) ?_
  refine TO.nil ?_
  refine TQ.then_normal ?_
  refine T.seq ?_
  refine T.seq ?_
  refine T.region ?_
  refine TO.rd rfl rfl (rd_assign (v := .int _ _) rfl) ?_
  refine TO.nil ?_
  refine TQ.then_normal ?_
  refine T.block ?_
  refine T.loop1 [0, 3] (fun (k : Nat) => [(4, .int .i64 (k : Nat))]) (fun (k : Nat) => [own b1 (List.replicate k (Value.int .u8 ((UInt8.ofNat (h % 256).toNat).toNat : Int)) ++ List.replicate (32 - k) (Value.int .u8 0)).toArray 5]) (fun (k : Nat) => k ≤ 32) (fun (k : Nat) => 32 - k) (0) (Nat.zero_le _) (And.intro (rfl) (trivial)) (fun _ _ h => h) fun k g0 hx0 => ?_
  refine T.seq ?_
  refine T.seq ?_
  refine T.region ?_
  refine TO.rd rfl rfl (rd_move (v := .int _ _) rfl) ?_
  refine TO.rd rfl rfl (rd_move (v := .slice _ _ _) rfl) ?_
  refine TO.rd rfl rfl (rd_lensl Tryd.under71 rfl) ?_
  refine TO.rd rfl rfl (rd_lss rfl rfl) ?_
  refine TO.nil ?_
  refine TQ.then_normal ?_
  refine T.cond_ft rfl (fun h2 => ?_) (fun h2 => ?_)
  · try simp only [decide_eq_true_eq, decide_eq_false_iff_not, Bool.not_eq_true', Bool.not_eq_false', Bool.not_eq_eq_eq_not, Bool.not_true, Bool.not_false, beq_iff_eq, beq_eq_false_iff_ne, bne_iff_ne, bne_eq_false_iff_eq, ne_eq, Int.not_lt, Int.not_le, Decidable.not_not] at h2
    refine T.exit ?_
    refine TQ.then_exit ?_
    refine TQ.then_exit ?_
    refine TQ.block_out ?_
    refine TQ.then_normal ?_
    refine T.seq ?_
    refine T.region ?_
    refine TO.rd rfl rfl (rd_move (v := .slice _ _ _) rfl) ?_
    refine TO.torow0 1 32 (by simp; omega) (by decide) ?_
    refine TO.row_eq (cs' := bytesC (keyB h)) rfl (by (obtain rfl : k = 32 := by omega); rfl) ?_
    refine TO.rd rfl rfl (rd_row_str Tryd.under71 Tryd.under5 Tryd.under9 rfl (Has.own 0 rfl)) ?_
    refine TO.rd rfl rfl (rd_assign (v := .string _) rfl) ?_
    refine TO.nil ?_
    refine TQ.then_normal ?_
    refine T.ret ?_
    refine TQ.value ?_ (res1 Tryd.results13 (Res.tmp (v := .string _) rfl)) _ (.inl rfl)
    rfl
  try simp only [decide_eq_true_eq, decide_eq_false_iff_not, Bool.not_eq_true', Bool.not_eq_false', Bool.not_eq_eq_eq_not, Bool.not_true, Bool.not_false, beq_iff_eq, beq_eq_false_iff_ne, bne_iff_ne, bne_eq_false_iff_eq, ne_eq, Int.not_lt, Int.not_le, Decidable.not_not] at h2
  refine T.skip ?_
  refine TQ.then_normal ?_
  refine T.seq ?_
  refine T.block ?_
  refine T.region ?_
  refine TO.rd rfl rfl (rd_move (v := .slice _ _ _) rfl) ?_
  refine TO.rd rfl rfl (rd_move (v := .int _ _) rfl) ?_
  refine TO.rd rfl rfl (rd_move (v := .int _ _) rfl) ?_
  refine TO.rd rfl rfl (rd_convert Tryd.isome3 Tryd.under5 rfl (show IntKind.u8.wrap h = ((UInt8.ofNat (h % 256).toNat).toNat : Int) from by rw [wrap_u8, UInt8.toNat_ofNat']; omega)) ?_
  refine TO.rd rfl rfl (rd_indexAddr (k := k) Tryd.under71 Tryd.size5 rfl rfl rfl (by omega)) ?_
  refine TO.store0 (cells' := (List.replicate (k + 1) (Value.int .u8 ((UInt8.ofNat (h % 256).toNat).toNat : Int)) ++ List.replicate (32 - (k + 1)) (Value.int .u8 0)).toArray) (v := .int .u8 _) Tryd.size5 rfl rfl rfl (by rw [Nat.zero_add, Nat.mul_one]; exact over_rep (by omega)) (by simp; omega) rfl ?_
  refine TO.nil ?_
  refine TQ.block_normal ?_
  refine TQ.then_normal ?_
  refine T.region ?_
  refine TO.rd rfl rfl (rd_move (v := .int _ _) rfl) ?_
  refine TO.rd rfl rfl (rd_add rfl rfl (w64 (by omega) (by omega))) ?_
  refine TO.rd rfl rfl (rd_assign (v := .int _ _) rfl) ?_
  refine TO.nil ?_
  refine TQ.againk (k + 1) ?_ ?_ (And.intro (rfl) (trivial)) (And.intro (rfl) (And.intro (rfl) (trivial))) (fun _ _ h => h)
  · first | omega | (dsimp only; omega)
  · first | omega | (dsimp only; omega)
/- dialtone/dialtoneref15.Keys -/
theorem c_ref15_Keys  : Ctr Tryd.prog 18 #[] [] [] (γ := Option Addr × Nat) (fun x => True) (fun x => .slice x.1 10 x.2) (fun x => [row 9 1 x.1 10 x.2 ((keysN 10).flatMap eStr)]) := by
  refine Ctr.intro Tryd.func18 rfl Tryd.ntmps18 (Nat.le_of_ble_eq_true rfl) fun S0 w0 => ?_
  refine T.seq ?_
  refine T.region ?_
  refine TO.rd rfl rfl (rd_assign (v := .slice none 0 0) rfl) ?_
  refine TO.newrow 9 1 ?_
  refine TO.nil ?_
  refine TQ.then_normal ?_
  refine T.seq ?_
  refine T.region ?_
  refine TO.rd rfl rfl (rd_assign (v := .slice none 0 0) rfl) ?_
  refine TO.newrow 9 1 ?_
  refine TO.nil ?_
  refine TQ.then_normal ?_
  refine T.seq ?_
  refine T.seq ?_
  refine T.region ?_
  refine TO.rd rfl rfl (rd_assign (v := .int _ _) rfl) ?_
  refine TO.nil ?_
  refine TQ.then_normal ?_
  refine T.block ?_
  refine T.loop3 [] (fun (A1 : Option Addr) (cap1 : Nat) (k : Nat) => [(1, .slice A1 k cap1), (2, .int .i64 (k : Nat))]) (fun (A1 : Option Addr) (cap1 : Nat) (k : Nat) => [row 9 1 A1 k cap1 ((keysN k).flatMap eStr)]) (fun (A1 : Option Addr) (cap1 : Nat) (k : Nat) => k ≤ 10) (fun (A1 : Option Addr) (cap1 : Nat) (k : Nat) => 10 - k) (none) (0) (0) (Nat.zero_le _) (And.intro (rfl) (And.intro (rfl) (trivial))) (fun _ _ h => h) fun A1 cap1 k g0 hx0 => ?_
  refine T.seq ?_
  refine T.seq ?_
  refine T.region ?_
  refine TO.rd rfl rfl (rd_move (v := .int _ _) rfl) ?_
  refine TO.rd rfl rfl (rd_lss rfl rfl) ?_
  refine TO.nil ?_
  refine TQ.then_normal ?_
  refine T.cond_ft rfl (fun h3 => ?_) (fun h3 => ?_)
  · try simp only [decide_eq_true_eq, decide_eq_false_iff_not, Bool.not_eq_true', Bool.not_eq_false', Bool.not_eq_eq_eq_not, Bool.not_true, Bool.not_false, beq_iff_eq, beq_eq_false_iff_ne, bne_iff_ne, bne_eq_false_iff_eq, ne_eq, Int.not_lt, Int.not_le, Decidable.not_not] at h3
    refine T.exit ?_
    refine TQ.then_exit ?_
    refine TQ.then_exit ?_
    refine TQ.block_out ?_
    refine TQ.then_normal ?_
    refine T.seq ?_
    refine T.region ?_
    refine TO.rd rfl rfl (rd_move (v := .slice _ _ _) rfl) ?_
    refine TO.rd rfl rfl (rd_assign (v := .slice _ _ _) rfl) ?_
    refine TO.nil ?_
    refine TQ.then_normal ?_
    refine T.ret ?_
    refine TQ.done ((A1, cap1)) (trivial) ?_ (fun _ _ => seps_row 0 rfl (by omega) (by rw [show k = 10 by omega])) (res1 Tryd.results18 (Res.tmp (v := .slice _ _ _) rfl)) _ (.inl rfl)
    rw [show k = 10 by omega]
  try simp only [decide_eq_true_eq, decide_eq_false_iff_not, Bool.not_eq_true', Bool.not_eq_false', Bool.not_eq_eq_eq_not, Bool.not_true, Bool.not_false, beq_iff_eq, beq_eq_false_iff_ne, bne_iff_ne, bne_eq_false_iff_eq, ne_eq, Int.not_lt, Int.not_le, Decidable.not_not] at h3
  refine T.skip ?_
  refine TQ.then_normal ?_
  refine T.seq ?_
  refine T.block ?_
  refine T.region ?_
  refine TO.rd rfl rfl (rd_move (v := .slice _ _ _) rfl) ?_
  refine TO.rd rfl rfl (rd_move (v := .int _ _) rfl) ?_
  refine TO.fn Tryd.enters13 (c_ref15_Key _) rfl Reads0 ?_
  refine TO.buildS (cs := [.string _]) Tryd.under46 Tryd.size9 Tryd.zero9 (Nat.le_of_ble_eq_true rfl) rfl (fun b4 => ?_)
  refine TO.front1 ?_
  refine TO.app Tryd.trow9 Tryd.under46 (.inl ⟨_, Tryd.under46⟩) rfl rfl (Src.own1 1 rfl rfl) rfl rfl (by omega) (fun A5 c6 hc7 => ?_)
  refine TO.row_eq (cs' := (keysN (k + 1)).flatMap eStr) rfl (by rw [keysN_succ, List.flatMap_append]; rfl) ?_
  refine TO.rd rfl rfl (rd_assign (v := .slice _ _ _) rfl) ?_
  refine TO.nil ?_
  refine TQ.block_normal ?_
  refine TQ.then_normal ?_
  refine T.region ?_
  refine TO.rd rfl rfl (rd_move (v := .int _ _) rfl) ?_
  refine TO.rd rfl rfl (rd_add rfl rfl (w64 (by omega) (by omega))) ?_
  refine TO.rd rfl rfl (rd_assign (v := .int _ _) rfl) ?_
  refine TO.nil ?_
  refine TQ.againk (A5, c6, k + 1) ?_ ?_ (And.intro (rfl) (And.intro (rfl) (trivial))) (trivial) (fun _ _ h => h.sel (js := [0, 2]) (by decide))
  · first | omega | (dsimp only; omega)
  · first | omega | (dsimp only; omega)
end Go.Proofs
end
section
/- Facts on the types and functions that the walks of this seat use. Written by a program of this session. -/
set_option linter.unusedVariables false
set_option linter.unusedSimpArgs false
set_option maxRecDepth 100000
set_option maxHeartbeats 800000
namespace Go.Proofs
open Go.TL
attribute [local irreducible] Go.TL.T Go.TL.TO Go.TL.TQ
theorem Tryd.enters41 : Enters Tryd.prog 41 := fun args w => by kernel_rfl
theorem Tryd.enters42 : Enters Tryd.prog 42 := fun args w => by kernel_rfl
theorem Tryd.enters46 : Enters Tryd.prog 46 := fun args w => by kernel_rfl
end Go.Proofs
end
section
/- Facts on the types and functions that the walks of this seat use. Written by a program of this session. -/
set_option linter.unusedVariables false
set_option linter.unusedSimpArgs false
set_option maxRecDepth 100000
set_option maxHeartbeats 800000
namespace Go.Proofs
open Go.TL
attribute [local irreducible] Go.TL.T Go.TL.TO Go.TL.TQ
theorem Tryd.field108_0 : TyField Tryd.prog 108 0 0 := fun a w => by kernel_rfl
theorem Tryd.zero108 : TyZero Tryd.prog 108 (.agg #[.pointer none, .slice none 0 0]) := fun w => by kernel_rfl
theorem Tryd.enters43 : Enters Tryd.prog 43 := fun args w => by kernel_rfl
theorem Tryd.enters47 : Enters Tryd.prog 47 := fun args w => by kernel_rfl
theorem Tryd.enters59 : Enters Tryd.prog 59 := fun args w => by kernel_rfl
theorem Tryd.enters61 : Enters Tryd.prog 61 := fun args w => by kernel_rfl
theorem Tryd.enters74 : Enters Tryd.prog 74 := fun args w => by kernel_rfl
theorem Tryd.enters75 : Enters Tryd.prog 75 := fun args w => by kernel_rfl
end Go.Proofs
end
section
/- Facts on the types and functions that the walks of this seat use. Written by a program of this session. -/
set_option linter.unusedVariables false
set_option linter.unusedSimpArgs false
set_option maxRecDepth 100000
set_option maxHeartbeats 800000
namespace Go.Proofs
open Go.TL
attribute [local irreducible] Go.TL.T Go.TL.TO Go.TL.TQ
theorem Tryd.enters91 : Enters Tryd.prog 91 := fun args w => by kernel_rfl
theorem Tryd.enters97 : Enters Tryd.prog 97 := fun args w => by kernel_rfl
theorem Tryd.enters98 : Enters Tryd.prog 98 := fun args w => by kernel_rfl
theorem Tryd.enters99 : Enters Tryd.prog 99 := fun args w => by kernel_rfl
end Go.Proofs
end
section
/- Facts on the types and functions that the walks of this seat use. Written by a program of this session. -/
set_option linter.unusedVariables false
set_option linter.unusedSimpArgs false
set_option maxRecDepth 100000
set_option maxHeartbeats 800000
namespace Go.Proofs
open Go.TL
attribute [local irreducible] Go.TL.T Go.TL.TO Go.TL.TQ
theorem Tryd.field100_1 : TyField Tryd.prog 100 1 1 := fun a w => by kernel_rfl
theorem Tryd.lies100_100 : liesAt Tryd.prog Tryd.prog.depth 100 (2 / Tryd.prog.cellsOf 100) 0 100 1 = true := by kernel_rfl
theorem Tryd.lies108_100 : liesAt Tryd.prog Tryd.prog.depth 108 (2 / Tryd.prog.cellsOf 108) 0 100 1 = true := by kernel_rfl
theorem Tryd.one71 : TyOne Tryd.prog 71 := ⟨fun w => by kernel_rfl, fun w => by kernel_rfl⟩
theorem Tryd.zero100 : TyZero Tryd.prog 100 (.agg #[.pointer none, .slice none 0 0]) := fun w => by kernel_rfl
theorem Tryd.enters64 : Enters Tryd.prog 64 := fun args w => by kernel_rfl
theorem Tryd.enters85 : Enters Tryd.prog 85 := fun args w => by kernel_rfl
theorem Tryd.enters104 : Enters Tryd.prog 104 := fun args w => by kernel_rfl
theorem Tryd.enters108 : Enters Tryd.prog 108 := fun args w => by kernel_rfl
end Go.Proofs
end
section
/- Facts on the types and functions that the walks of this seat use. Written by a program of this session. -/
set_option linter.unusedVariables false
set_option linter.unusedSimpArgs false
set_option maxRecDepth 100000
set_option maxHeartbeats 800000
namespace Go.Proofs
open Go.TL
attribute [local irreducible] Go.TL.T Go.TL.TO Go.TL.TQ
theorem Tryd.mkz110 : MkZ Tryd.prog 110 71 := ⟨#[3], fun v w => by kernel_rfl⟩
theorem Tryd.one1_5 : (Tryd.prog.info? 5).map (·.size) = some 1 := by kernel_rfl
theorem Tryd.size71 : ∀ w, (sizeOf 71).run Tryd.prog w = .ok 1 w := fun w => by kernel_rfl
end Go.Proofs
end
section
/- Facts on the types and functions that the walks of this seat use. Written by a program of this session. -/
set_option linter.unusedVariables false
set_option linter.unusedSimpArgs false
set_option maxRecDepth 100000
set_option maxHeartbeats 800000
namespace Go.Proofs
open Go.TL
attribute [local irreducible] Go.TL.T Go.TL.TO Go.TL.TQ
theorem Tryd.agg150 : TyAgg Tryd.prog 150 8 := ⟨fun w => by kernel_rfl, fun w => by kernel_rfl⟩
theorem Tryd.under150 : Tryd.prog.underlying 150 = some (.array 8 126) := by kernel_rfl
theorem Tryd.under160 : Tryd.prog.underlying 160 = some (.array 32 5) := by kernel_rfl
theorem Tryd.zero160 : TyZero Tryd.prog 160 (.agg #[.int .u8 0, .int .u8 0, .int .u8 0, .int .u8 0, .int .u8 0, .int .u8 0, .int .u8 0, .int .u8 0, .int .u8 0, .int .u8 0, .int .u8 0, .int .u8 0, .int .u8 0, .int .u8 0, .int .u8 0, .int .u8 0, .int .u8 0, .int .u8 0, .int .u8 0, .int .u8 0, .int .u8 0, .int .u8 0, .int .u8 0, .int .u8 0, .int .u8 0, .int .u8 0, .int .u8 0, .int .u8 0, .int .u8 0, .int .u8 0, .int .u8 0, .int .u8 0]) := fun w => by kernel_rfl
end Go.Proofs
end
section
/- Facts on the types and functions that the walks of this seat use. Written by a program of this session. -/
set_option linter.unusedVariables false
set_option linter.unusedSimpArgs false
set_option maxRecDepth 100000
set_option maxHeartbeats 800000
namespace Go.Proofs
open Go.TL
attribute [local irreducible] Go.TL.T Go.TL.TO Go.TL.TQ
theorem Tryd.agg157 : TyAgg Tryd.prog 157 64 := ⟨fun w => by kernel_rfl, fun w => by kernel_rfl⟩
theorem Tryd.size150 : ∀ w, (sizeOf 150).run Tryd.prog w = .ok 8 w := fun w => by kernel_rfl
theorem Tryd.size157 : ∀ w, (sizeOf 157).run Tryd.prog w = .ok 64 w := fun w => by kernel_rfl
theorem Tryd.under157 : Tryd.prog.underlying 157 = some (.array 64 126) := by kernel_rfl
theorem Tryd.zero150 : TyZero Tryd.prog 150 (.agg #[.int .u32 0, .int .u32 0, .int .u32 0, .int .u32 0, .int .u32 0, .int .u32 0, .int .u32 0, .int .u32 0]) := fun w => by kernel_rfl
theorem Tryd.zero157 : TyZero Tryd.prog 157 (.agg #[.int .u32 0, .int .u32 0, .int .u32 0, .int .u32 0, .int .u32 0, .int .u32 0, .int .u32 0, .int .u32 0, .int .u32 0, .int .u32 0, .int .u32 0, .int .u32 0, .int .u32 0, .int .u32 0, .int .u32 0, .int .u32 0, .int .u32 0, .int .u32 0, .int .u32 0, .int .u32 0, .int .u32 0, .int .u32 0, .int .u32 0, .int .u32 0, .int .u32 0, .int .u32 0, .int .u32 0, .int .u32 0, .int .u32 0, .int .u32 0, .int .u32 0, .int .u32 0, .int .u32 0, .int .u32 0, .int .u32 0, .int .u32 0, .int .u32 0, .int .u32 0, .int .u32 0, .int .u32 0, .int .u32 0, .int .u32 0, .int .u32 0, .int .u32 0, .int .u32 0, .int .u32 0, .int .u32 0, .int .u32 0, .int .u32 0, .int .u32 0, .int .u32 0, .int .u32 0, .int .u32 0, .int .u32 0, .int .u32 0, .int .u32 0, .int .u32 0, .int .u32 0, .int .u32 0, .int .u32 0, .int .u32 0, .int .u32 0, .int .u32 0, .int .u32 0]) := fun w => by kernel_rfl
theorem Tryd.enters106 : Enters Tryd.prog 106 := fun args w => by kernel_rfl
theorem Tryd.enters107 : Enters Tryd.prog 107 := fun args w => by kernel_rfl
end Go.Proofs
end
section
/- Facts on the types and functions that the walks of this seat use. Written by a program of this session. -/
set_option linter.unusedVariables false
set_option linter.unusedSimpArgs false
set_option maxRecDepth 100000
set_option maxHeartbeats 800000
namespace Go.Proofs
open Go.TL
attribute [local irreducible] Go.TL.T Go.TL.TO Go.TL.TQ
end Go.Proofs
end
section
/- Facts on the types and functions that the walks of this seat use. Written by a program of this session. -/
set_option linter.unusedVariables false
set_option linter.unusedSimpArgs false
set_option maxRecDepth 100000
set_option maxHeartbeats 800000
namespace Go.Proofs
open Go.TL
attribute [local irreducible] Go.TL.T Go.TL.TO Go.TL.TQ
theorem Tryd.under104 : Tryd.prog.underlying 104 = some (.int .u64) := by kernel_rfl
theorem Tryd.enters109 : Enters Tryd.prog 109 := fun args w => by kernel_rfl
end Go.Proofs
end
section
/- Walks: what functions of the program do, by contract. Written by a program of this session. -/
set_option linter.unusedVariables false
set_option linter.unusedSimpArgs false
set_option maxRecDepth 100000
set_option maxHeartbeats 800000
namespace Go.Proofs
open Go.TL
attribute [local irreducible] Go.TL.T Go.TL.TO Go.TL.TQ
/- math/bits.RotateLeft32 -/
theorem c_rot32 (x : UInt32) (n : Int) (h0 : 0 < n) (h : n < 32) : Cv Tryd.prog 109 #[.int .u32 x.toNat, .int .i64 (0 - n)] [] (.int .u32 (rotr x n.toNat).toNat) := by
  obtain ⟨m, rfl⟩ : ∃ m : Nat, n = (m : Int) := ⟨n.toNat, by omega⟩
  refine Ctr.intro Tryd.func109 rfl Tryd.ntmps109 (Nat.le_of_ble_eq_true rfl) fun S0 w0 => ?_
  refine T.seq ?_
  refine T.region ?_
  refine TO.rd rfl rfl (rd_assign (v := .int _ _) rfl) ?_
  refine TO.nil ?_
  refine TQ.then_normal ?_
  refine T.seq ?_
  refine T.region ?_
  refine TO.rd rfl rfl (rd_move (v := .int _ _) rfl) ?_
  refine TO.rd rfl rfl (rd_convert Tryd.isome3 Tryd.under104 rfl (wrap_negu (n := m) (by omega) (by omega))) ?_
  refine TO.rd rfl rfl (rd_and rfl rfl (and31 (by omega) (by omega))) ?_
  refine TO.rd rfl rfl (rd_assign (v := .int _ _) rfl) ?_
  refine TO.nil ?_
  refine TQ.then_normal ?_
  refine T.seq ?_
  refine T.region ?_
  refine TO.rd rfl rfl (rd_move (v := .int _ _) rfl) ?_
  refine TO.rd rfl rfl (rd_move (v := .int _ _) rfl) ?_
  refine TO.rd rfl rfl (rd_shl32 (k := (32 - m)) rfl rfl (rfl) (by omega)) ?_
  refine TO.rd rfl rfl (rd_move (v := .int _ _) rfl) ?_
  refine TO.rd rfl rfl (rd_move (v := .int _ _) rfl) ?_
  refine TO.rd rfl rfl (rd_sub rfl rfl (wu64 (by omega) (by omega))) ?_
  refine TO.rd rfl rfl (rd_shr32 (k := m) rfl rfl (by omega) (by omega)) ?_
  refine TO.rd rfl rfl (rd_or32 rfl rfl) ?_
  refine TO.rd rfl rfl (rd_assign (v := .int _ _) rfl) ?_
  refine TO.nil ?_
  refine TQ.then_normal ?_
  refine T.ret ?_
  refine TQ.value ?_ (res1 Tryd.results109 (Res.tmp (v := .int _ _) rfl)) _ (.inl rfl)
  rw [Int.toNat_natCast, rotr, UInt32.or_comm]
/- dialtone/digest.mixed -/
theorem c_mixed (x : UInt32) (A : Option Addr) (cap n : Nat) (l : List Int) (hn : n = l.length) (hl : ∀ n ∈ l, 0 < n ∧ n < 32) (hlen : l.length ≤ 100) : Cv Tryd.prog 107 #[.int .u32 x.toNat, .slice A n cap] [slc eInt 1 A l] (.int .u32 (mixedOf x l).toNat) := by
  subst hn
  refine Ctr.intro Tryd.func107 rfl Tryd.ntmps107 (Nat.le_of_ble_eq_true rfl) fun S0 w0 => ?_
  refine T.seq ?_
  refine T.region ?_
  refine TO.rd rfl rfl (rd_assign (v := .int _ _) rfl) ?_
  refine TO.nil ?_
  refine TQ.then_normal ?_
  refine T.seq ?_
  refine T.region ?_
  refine TO.rd rfl rfl (rd_assign (v := .int _ _) rfl) ?_
  refine TO.nil ?_
  refine TQ.then_normal ?_
  refine T.seq ?_
  refine T.seq ?_
  refine T.region ?_
  refine TO.rd rfl rfl (rd_move (v := .slice _ _ _) rfl) ?_
  refine TO.rd rfl rfl (rd_lensl Tryd.under88 rfl) ?_
  refine TO.rd rfl rfl (rd_move (v := .int _ _) rfl) ?_
  refine TO.nil ?_
  refine TQ.then_normal ?_
  refine T.block ?_
  refine T.loop1 [0, 8, 9] (fun (k : Nat) => [(5, .int .u32 (mixedOf x (l.take k)).toNat), (10, .int .i64 (k : Nat))]) (fun (k : Nat) => []) (fun (k : Nat) => k ≤ l.length) (fun (k : Nat) => l.length - k) (0) (Nat.zero_le _) (And.intro (rfl) (And.intro (rfl) (trivial))) (fun _ _ h => h) fun k g0 hx0 => ?_
  refine T.seq ?_
  refine T.region ?_
  refine TO.rd rfl rfl (rd_lss rfl rfl) ?_
  refine TO.nil ?_
  refine TQ.then_normal ?_
  refine T.seq ?_
  refine T.cond_ft rfl (fun h1 => ?_) (fun h1 => ?_)
  · try simp only [decide_eq_true_eq, decide_eq_false_iff_not, Bool.not_eq_true', Bool.not_eq_false', Bool.not_eq_eq_eq_not, Bool.not_true, Bool.not_false, beq_iff_eq, beq_eq_false_iff_ne, bne_iff_ne, bne_eq_false_iff_eq, ne_eq, Int.not_lt, Int.not_le, Decidable.not_not] at h1
    refine T.exit ?_
    refine TQ.then_exit ?_
    refine TQ.then_exit ?_
    refine TQ.block_out ?_
    refine TQ.then_normal ?_
    refine T.seq ?_
    refine T.region ?_
    refine TO.rd rfl rfl (rd_move (v := .int _ _) rfl) ?_
    refine TO.rd rfl rfl (rd_assign (v := .int _ _) rfl) ?_
    refine TO.nil ?_
    refine TQ.then_normal ?_
    refine T.ret ?_
    refine TQ.value ?_ (res1 Tryd.results107 (Res.tmp (v := .int _ _) rfl)) _ (.inl rfl)
    rw [List.take_of_length_le (by omega)]
  try simp only [decide_eq_true_eq, decide_eq_false_iff_not, Bool.not_eq_true', Bool.not_eq_false', Bool.not_eq_eq_eq_not, Bool.not_true, Bool.not_false, beq_iff_eq, beq_eq_false_iff_ne, bne_iff_ne, bne_eq_false_iff_eq, ne_eq, Int.not_lt, Int.not_le, Decidable.not_not] at h1
  refine T.skip ?_
  refine TQ.then_normal ?_
  refine T.seq ?_
  refine T.block ?_
  refine T.seq ?_
  refine T.region ?_
  refine TO.rd rfl rfl (rd_ix Tryd.under88 Tryd.size3 rfl rfl (Has.arg 0 rfl) rfl (by omega) (by omega)) ?_
  refine TO.rd rfl rfl (rd_el (v := .int _ _) _ 0 Tryd.one3 rfl (Has.arg 0 rfl) rfl (by omega) (Nat.le_of_ble_eq_true rfl) rfl) ?_
  have hb := hl (l[k]'(by omega)) (List.getElem_mem _)
  refine TO.rd rfl rfl (rd_assign (v := .int _ _) rfl) ?_
  refine TO.nil ?_
  refine TQ.then_normal ?_
  refine T.region ?_
  refine TO.rd rfl rfl (rd_move (v := .int _ _) rfl) ?_
  refine TO.rd rfl rfl (rd_move (v := .int _ _) rfl) ?_
  refine TO.rd rfl rfl (rd_move (v := .int _ _) rfl) ?_
  refine TO.rd rfl rfl (rd_neg rfl (w64 (by omega) (by omega))) ?_
  refine TO.fn Tryd.enters109 (c_rot32 x (l[k]'(by omega)) (by omega) (by omega)) rfl Reads0 ?_
  refine TO.rd rfl rfl (rd_xor32 (a := mixedOf x (l.take k)) (b := rotr x (l[k]'(by omega)).toNat) rfl rfl) ?_
  refine TO.rd rfl rfl (rd_assign (v := .int _ _) rfl) ?_
  refine TO.nil ?_
  refine TQ.block_normal ?_
  refine TQ.then_normal ?_
  refine T.region ?_
  refine TO.rd rfl rfl (rd_add rfl rfl (w64 (by omega) (by omega))) ?_
  refine TO.rd rfl rfl (rd_move (v := .int _ _) rfl) ?_
  refine TO.nil ?_
  refine TQ.againk (k + 1) ?_ ?_ (And.intro (congrArg (fun z : UInt32 => Value.int .u32 (z.toNat : Int)) (mixedOf_step (by omega))) (And.intro (rfl) (trivial))) (And.intro (rfl) (And.intro (rfl) (And.intro (rfl) (trivial)))) (fun _ _ h => h)
  · first | omega | (dsimp only; omega)
  · first | omega | (dsimp only; omega)
end Go.Proofs
end
section
/- Walks: what functions of the program do, by contract. Written by a program of this session. -/
set_option linter.unusedVariables false
set_option linter.unusedSimpArgs false
set_option maxRecDepth 100000
set_option maxHeartbeats 800000
namespace Go.Proofs
open Go.TL
attribute [local irreducible] Go.TL.T Go.TL.TO Go.TL.TQ
/- dialtone/digest.schedule -/
theorem c_schedule (A : Option Addr) (cap n : Nat) (b : List UInt8) (hn : n = b.length) (hb : b.length = 64) : Cv Tryd.prog 106 #[.slice A n cap] [slc eByte 1 A b] (.agg ((sched b).flatMap eW).toArray) := by
  subst hn
  refine Ctr.intro Tryd.func106 rfl Tryd.ntmps106 (Nat.le_of_ble_eq_true rfl) fun S0 w0 => ?_
  refine T.seq ?_
  refine T.region ?_
  refine TO.alloc Tryd.zero157 (fun b1 => ?_)
  refine TO.nil ?_
  refine TQ.then_normal ?_
  refine T.seq ?_
  refine T.seq ?_
  refine T.region ?_
  refine TO.rd rfl rfl (rd_move (v := .int _ _) rfl) ?_
  refine TO.nil ?_
  refine TQ.then_normal ?_
  refine T.block ?_
  refine T.loop1 [0, 2] (fun (k : Nat) => [(7, .int .i64 (k : Nat))]) (fun (k : Nat) => [own b1 ((w16 b k).flatMap eW ++ List.replicate (64 - k) (Value.int .u32 0)).toArray 157]) (fun (k : Nat) => k ≤ 16) (fun (k : Nat) => 16 - k) (0) (Nat.zero_le _) (And.intro (rfl) (trivial)) (fun _ _ h => h) fun k g0 hx0 => ?_
  refine T.seq ?_
  refine T.region ?_
  refine TO.rd rfl rfl (rd_lss rfl rfl) ?_
  refine TO.nil ?_
  refine TQ.then_normal ?_
  refine T.seq ?_
  refine T.cond rfl (fun h2 => ?_) (fun h2 => ?_)
  · try simp only [decide_eq_true_eq, decide_eq_false_iff_not, Bool.not_eq_true', Bool.not_eq_false', Bool.not_eq_eq_eq_not, Bool.not_true, Bool.not_false, beq_iff_eq, beq_eq_false_iff_ne, bne_iff_ne, bne_eq_false_iff_eq, ne_eq, Int.not_lt, Int.not_le, Decidable.not_not] at h2
    refine T.skip ?_
    refine TQ.then_normal ?_
    refine T.seq ?_
    refine T.block ?_
    refine T.seq ?_
    refine T.region ?_
    refine TO.rd rfl rfl (rd_move (v := .int _ _) rfl) ?_
    refine TO.rd rfl rfl (rd_assign (v := .int _ _) rfl) ?_
    refine TO.nil ?_
    refine TQ.then_normal ?_
    refine T.drawq Tryd.mixes 34 [(10, 0), (11, 1), (12, 2), (13, 3), (14, 4), (15, 5), (16, 6), (17, 7), (18, 8), (19, 9), (20, 10), (21, 11), (22, 12), (23, 13), (24, 14), (25, 15), (26, 16), (27, 17), (28, 18), (29, 19), (30, 20), (31, 21), (32, 22), (33, 23), (34, 24), (35, 25), (36, 26), (37, 27), (38, 28), (39, 29), (40, 30), (41, 31), (42, 32), (43, 33)] [0, 0, 0, 4, 14, 30, 62, 126, 0, 0, 512, 1536, 3840, 7936, 16128, 32512, 65534, 0, 0, 262144, 786432, 1966080, 4063232, 8257536, 16646144, 33554430, 0, 0, 134217728, 402653184, 1006632960, 2080374784, 4227858432, 8589934590, 17179869183, 34359738367] (by kernel_rfl) ?_
    refine DQ.rd rfl rfl (fun _ => rd_move (v := .int _ _) rfl) ?_
    refine DQ.rd rfl rfl (fun _ => rd_move (v := .slice _ _ _) rfl) ?_
    refine DQ.rd rfl rfl (fun _ => rd_move (v := .int _ _) rfl) ?_
    refine DQ.rd rfl rfl (fun _ => rd_mul rfl rfl (w64 (by omega) (by omega))) ?_
    refine DQ.rd rfl rfl (fun _ => rd_ix (k := (4 * k)) Tryd.under71 Tryd.size5 rfl rfl (Has.arg 0 rfl) (by omega) (by omega) (by omega)) ?_
    refine DQ.rd rfl rfl (fun _ => rd_el (v := .int _ _) (4 * k) 0 Tryd.one5 rfl (Has.arg 0 rfl) rfl (by omega) (Nat.le_of_ble_eq_true rfl) rfl) ?_
    refine DQ.rd rfl rfl (fun _ => rd_conv8_32 Tryd.isome5 Tryd.under126 rfl) ?_
    refine DQ.rd rfl rfl (fun _ => rd_shl32 (k := 24) rfl rfl (rfl) (by decide)) ?_
    refine DQ.rd rfl rfl (fun _ => rd_move (v := .slice _ _ _) rfl) ?_
    refine DQ.rd rfl rfl (fun _ => rd_move (v := .int _ _) rfl) ?_
    refine DQ.rd rfl rfl (fun _ => rd_mul rfl rfl (w64 (by omega) (by omega))) ?_
    refine DQ.rd rfl rfl (fun _ => rd_add rfl rfl (w64 (by omega) (by omega))) ?_
    refine DQ.rd rfl rfl (fun _ => rd_ix (k := (4 * k + 1)) Tryd.under71 Tryd.size5 rfl rfl (Has.arg 0 rfl) (by omega) (by omega) (by omega)) ?_
    refine DQ.rd rfl rfl (fun _ => rd_el (v := .int _ _) (4 * k + 1) 0 Tryd.one5 rfl (Has.arg 0 rfl) rfl (by omega) (Nat.le_of_ble_eq_true rfl) rfl) ?_
    refine DQ.rd rfl rfl (fun _ => rd_conv8_32 Tryd.isome5 Tryd.under126 rfl) ?_
    refine DQ.rd rfl rfl (fun _ => rd_shl32 (k := 16) rfl rfl (rfl) (by decide)) ?_
    refine DQ.rd rfl rfl (fun _ => rd_or32 rfl rfl) ?_
    refine DQ.rd rfl rfl (fun _ => rd_move (v := .slice _ _ _) rfl) ?_
    refine DQ.rd rfl rfl (fun _ => rd_move (v := .int _ _) rfl) ?_
    refine DQ.rd rfl rfl (fun _ => rd_mul rfl rfl (w64 (by omega) (by omega))) ?_
    refine DQ.rd rfl rfl (fun _ => rd_add rfl rfl (w64 (by omega) (by omega))) ?_
    refine DQ.rd rfl rfl (fun _ => rd_ix (k := (4 * k + 2)) Tryd.under71 Tryd.size5 rfl rfl (Has.arg 0 rfl) (by omega) (by omega) (by omega)) ?_
    refine DQ.rd rfl rfl (fun _ => rd_el (v := .int _ _) (4 * k + 2) 0 Tryd.one5 rfl (Has.arg 0 rfl) rfl (by omega) (Nat.le_of_ble_eq_true rfl) rfl) ?_
    refine DQ.rd rfl rfl (fun _ => rd_conv8_32 Tryd.isome5 Tryd.under126 rfl) ?_
    refine DQ.rd rfl rfl (fun _ => rd_shl32 (k := 8) rfl rfl (rfl) (by decide)) ?_
    refine DQ.rd rfl rfl (fun _ => rd_or32 rfl rfl) ?_
    refine DQ.rd rfl rfl (fun _ => rd_move (v := .slice _ _ _) rfl) ?_
    refine DQ.rd rfl rfl (fun _ => rd_move (v := .int _ _) rfl) ?_
    refine DQ.rd rfl rfl (fun _ => rd_mul rfl rfl (w64 (by omega) (by omega))) ?_
    refine DQ.rd rfl rfl (fun _ => rd_add rfl rfl (w64 (by omega) (by omega))) ?_
    refine DQ.rd rfl rfl (fun _ => rd_ix (k := (4 * k + 3)) Tryd.under71 Tryd.size5 rfl rfl (Has.arg 0 rfl) (by omega) (by omega) (by omega)) ?_
    refine DQ.rd rfl rfl (fun _ => rd_el (v := .int _ _) (4 * k + 3) 0 Tryd.one5 rfl (Has.arg 0 rfl) rfl (by omega) (Nat.le_of_ble_eq_true rfl) rfl) ?_
    refine DQ.rd rfl rfl (fun _ => rd_conv8_32 Tryd.isome5 Tryd.under126 rfl) ?_
    refine DQ.rd rfl rfl (fun _ => rd_or32 rfl rfl) ?_
    refine DQ.done rfl ?_
    refine TO.rd rfl rfl (rd_ixa (k) Tryd.under157 Tryd.size126 rfl rfl (by omega) (by omega)) ?_
    refine TO.store0 (cells' := ((w16 b (k + 1)).flatMap eW ++ List.replicate (64 - (k + 1)) (Value.int .u32 0)).toArray) (v := .int .u32 _) Tryd.size126 rfl rfl rfl (by rw [Nat.zero_add, Nat.mul_one]; rw [w16_succ, wordAt_get (by omega)]; exact over_snoc (l := w16 b k) (m := 64) (k := k) (by first | exact w16_len _ _ | omega) (by omega)) (by rw [List.size_toArray, List.length_append, eW_len, List.length_replicate]; (try rw [w16_len]); omega) rfl ?_
    refine TO.nil ?_
    refine TQ.block_normal ?_
    refine TQ.then_normal ?_
    refine T.region ?_
    refine TO.rd rfl rfl (rd_add rfl rfl (w64 (by omega) (by omega))) ?_
    refine TO.rd rfl rfl (rd_move (v := .int _ _) rfl) ?_
    refine TO.nil ?_
    refine TQ.againk (k + 1) ?_ ?_ (And.intro (rfl) (trivial)) (And.intro (rfl) (And.intro (rfl) (trivial))) (fun _ _ h => h)
    · first | omega | (dsimp only; omega)
    · first | omega | (dsimp only; omega)
  try simp only [decide_eq_true_eq, decide_eq_false_iff_not, Bool.not_eq_true', Bool.not_eq_false', Bool.not_eq_eq_eq_not, Bool.not_true, Bool.not_false, beq_iff_eq, beq_eq_false_iff_ne, bne_iff_ne, bne_eq_false_iff_eq, ne_eq, Int.not_lt, Int.not_le, Decidable.not_not] at h2
  refine T.exit ?_
  refine TQ.then_exit ?_
  refine TQ.then_exit ?_
  refine TQ.block_out ?_
  refine TQ.then_normal ?_
  refine T.seq ?_
  refine T.seq ?_
  refine T.region ?_
  refine TO.rd rfl rfl (rd_assign (v := .int _ _) rfl) ?_
  refine TO.nil ?_
  refine TQ.then_normal ?_
  refine T.block ?_
  obtain rfl : k = 16 := by omega
  refine T.loop2 [2] (fun (k : Nat) (wd : List UInt32) => [(4, .int .i64 (k : Nat))]) (fun (k : Nat) (wd : List UInt32) => [own b1 (wd.flatMap eW ++ List.replicate (64 - k) (Value.int .u32 0)).toArray 157]) (fun (k : Nat) (wd : List UInt32) => wd.length = k ∧ k ≤ 64 ∧ wext (64 - k) wd = sched b ∧ 16 ≤ k) (fun (k : Nat) (wd : List UInt32) => 64 - k) (16) (w16 b 16) (⟨w16_len _ _, by omega, rfl, by omega⟩) (And.intro (rfl) (trivial)) (fun _ _ h => h) fun k wd g1 hx1 => ?_
  obtain ⟨hwl, hk, hw, hk16⟩ := hx1
  refine T.seq ?_
  refine T.seq ?_
  refine T.region ?_
  refine TO.rd rfl rfl (rd_move (v := .int _ _) rfl) ?_
  refine TO.rd rfl rfl (rd_lss rfl rfl) ?_
  refine TO.nil ?_
  refine TQ.then_normal ?_
  refine T.cond_ft rfl (fun h3 => ?_) (fun h3 => ?_)
  · try simp only [decide_eq_true_eq, decide_eq_false_iff_not, Bool.not_eq_true', Bool.not_eq_false', Bool.not_eq_eq_eq_not, Bool.not_true, Bool.not_false, beq_iff_eq, beq_eq_false_iff_ne, bne_iff_ne, bne_eq_false_iff_eq, ne_eq, Int.not_lt, Int.not_le, Decidable.not_not] at h3
    refine T.exit ?_
    refine TQ.then_exit ?_
    refine TQ.then_exit ?_
    refine TQ.block_out ?_
    refine TQ.then_normal ?_
    refine T.seq ?_
    refine T.region ?_
    have hwd := sched_wext hw (by omega)
    refine TO.own_eq (cells' := ((sched b).flatMap eW).toArray) (by rw [show 64 - k = 0 by omega, ← hwd]; simp) ?_
    refine TO.rd rfl rfl (rd_load_all (cs := (sched b).flatMap eW) Tryd.agg157 rfl (Has.own 0 rfl) (by rw [eW_len, sched_len])) ?_
    refine TO.store_all (cs := (sched b).flatMap eW) Tryd.size157 rfl rfl (by rw [eW_len, sched_len]) (by rw [eW_len, sched_len]) (flatMap_one (fun _ => rfl) _) ?_
    refine TO.nil ?_
    refine TQ.then_normal ?_
    refine T.ret ?_
    refine TQ.value ?_ (res1 Tryd.results106 (Res.cells (cs := ((sched b).flatMap eW).toArray) Tryd.agg157 rfl (Has.own 0 rfl) (part_all' (by rw [eW_len, sched_len])) (by rw [List.size_toArray, eW_len, sched_len]))) _ (.inl rfl)
    rfl
  try simp only [decide_eq_true_eq, decide_eq_false_iff_not, Bool.not_eq_true', Bool.not_eq_false', Bool.not_eq_eq_eq_not, Bool.not_true, Bool.not_false, beq_iff_eq, beq_eq_false_iff_ne, bne_iff_ne, bne_eq_false_iff_eq, ne_eq, Int.not_lt, Int.not_le, Decidable.not_not] at h3
  refine T.skip ?_
  refine TQ.then_normal ?_
  refine T.seq ?_
  refine T.block ?_
  refine T.seq ?_
  refine T.drawq Tryd.mixes 9 [(50, 0), (51, 1), (52, 2), (53, 3), (54, 4), (55, 5), (56, 6), (57, 7), (5, 8)] [0, 1, 3, 7, 0, 16, 48, 112, 15, 511] (by kernel_rfl) ?_
  refine DQ.rd rfl rfl (fun _ => rd_move (v := .int _ _) rfl) ?_
  refine DQ.rd rfl rfl (fun _ => rd_sub rfl rfl (w64 (by omega) (by omega))) ?_
  refine DQ.rd rfl rfl (fun _ => rd_ixa (k - 15) Tryd.under157 Tryd.size126 rfl rfl (by omega) (by omega)) ?_
  refine DQ.rd rfl rfl (fun _ => rd_loadk (k - 15) (v := .int .u32 (wd[k - 15]'(by omega)).toNat) Tryd.one126 rfl (Has.own 0 rfl) rfl (getw (l := wd) (by omega))) ?_
  refine DQ.rd rfl rfl (fun _ => rd_move (v := .int _ _) rfl) ?_
  refine DQ.rd rfl rfl (fun _ => rd_sub rfl rfl (w64 (by omega) (by omega))) ?_
  refine DQ.rd rfl rfl (fun _ => rd_ixa (k - 2) Tryd.under157 Tryd.size126 rfl rfl (by omega) (by omega)) ?_
  refine DQ.rd rfl rfl (fun _ => rd_loadk (k - 2) (v := .int .u32 (wd[k - 2]'(by omega)).toNat) Tryd.one126 rfl (Has.own 0 rfl) rfl (getw (l := wd) (by omega))) ?_
  refine DQ.rd rfl rfl (fun _ => rd_assign (v := .int _ _) rfl) ?_
  refine DQ.done rfl ?_
  refine TO.rd rfl rfl (rd_assign (v := .int _ _) rfl) ?_
  refine TO.nil ?_
  refine TQ.then_normal ?_
  refine T.drawg Tryd.mixes 24 [(58, 0), (59, 1), (60, 2), (61, 3), (62, 4), (63, 5), (64, 6), (65, 7), (66, 8), (67, 9), (68, 10), (69, 11), (70, 12), (71, 13), (72, 14), (73, 15), (74, 16), (75, 17), (76, 18), (77, 19), (78, 20), (79, 21), (80, 22), (81, 23)] [0, 0, 2, 6, 14, 0, 0, 96, 0, 256, 992, 2046, 0, 4096, 12288, 28672, 65534, 0, 0, 393440, 0, 1048576, 4063456, 8388606, 16777215, 33554431] [6, 18] (by kernel_rfl) ?_
  refine DG.rd rfl rfl rfl (fun _ _ => rd_move (v := .int _ _) rfl) ?_
  refine DG.rd rfl rfl rfl (fun _ _ => rd_move (v := .int _ _) rfl) ?_
  refine DG.rd rfl rfl rfl (fun _ _ => rd_sub rfl rfl (w64 (by omega) (by omega))) ?_
  refine DG.rd rfl rfl rfl (fun _ _ => rd_ixa (k - 16) Tryd.under157 Tryd.size126 rfl rfl (by omega) (by omega)) ?_
  refine DG.rd rfl rfl rfl (fun _ _ => rd_loadk (k - 16) (v := .int .u32 (wd[k - 16]'(by omega)).toNat) Tryd.one126 rfl (Has.own 0 rfl) rfl (getw (l := wd) (by omega))) ?_
  refine DG.rd rfl rfl rfl (fun _ _ => rd_move (v := .int _ _) rfl) ?_
  refine DG.buildS (cs := [.int _ _, .int _ _]) rfl rfl Tryd.under88 Tryd.size3 Tryd.zero3 (Nat.le_of_ble_eq_true rfl) (fun _ _ => rfl) ?_
  refine DG.fnp rfl rfl Tryd.enters107 (fun ρ => c_mixed (wd[k - 15]'(by omega)) (some ⟨(ρ 6).2, 0, none⟩) 2 2 [7, 18] (by first | rfl | simp | omega) (by decide) (by decide)) (fun _ _ => rfl) (fun ρ M hM => (ReadsC (own_slc (e := eInt) [7, 18] rfl (fun _ => rfl) (Has.fromM 6 (hM 6 rfl)) (by simp)) Reads0)) ?_
  refine DG.rd rfl rfl rfl (fun _ _ => rd_move (v := .int _ _) rfl) ?_
  refine DG.rd rfl rfl rfl (fun _ _ => rd_shr32 (k := 3) rfl rfl (rfl) (by decide)) ?_
  refine DG.rd rfl rfl rfl (fun _ _ => rd_xor32 rfl rfl) ?_
  refine DG.rd rfl rfl rfl (fun _ _ => rd_add32 rfl rfl) ?_
  refine DG.rd rfl rfl rfl (fun _ _ => rd_move (v := .int _ _) rfl) ?_
  refine DG.rd rfl rfl rfl (fun _ _ => rd_sub rfl rfl (w64 (by omega) (by omega))) ?_
  refine DG.rd rfl rfl rfl (fun _ _ => rd_ixa (k - 7) Tryd.under157 Tryd.size126 rfl rfl (by omega) (by omega)) ?_
  refine DG.rd rfl rfl rfl (fun _ _ => rd_loadk (k - 7) (v := .int .u32 (wd[k - 7]'(by omega)).toNat) Tryd.one126 rfl (Has.own 0 rfl) rfl (getw (l := wd) (by omega))) ?_
  refine DG.rd rfl rfl rfl (fun _ _ => rd_add32 rfl rfl) ?_
  refine DG.rd rfl rfl rfl (fun _ _ => rd_move (v := .int _ _) rfl) ?_
  refine DG.buildS (cs := [.int _ _, .int _ _]) rfl rfl Tryd.under88 Tryd.size3 Tryd.zero3 (Nat.le_of_ble_eq_true rfl) (fun _ _ => rfl) ?_
  refine DG.fnp rfl rfl Tryd.enters107 (fun ρ => c_mixed (wd[k - 2]'(by omega)) (some ⟨(ρ 18).2, 0, none⟩) 2 2 [17, 19] (by first | rfl | simp | omega) (by decide) (by decide)) (fun _ _ => rfl) (fun ρ M hM => (ReadsC (own_slc (e := eInt) [17, 19] rfl (fun _ => rfl) (Has.fromM 18 (hM 18 rfl)) (by simp)) Reads0)) ?_
  refine DG.rd rfl rfl rfl (fun _ _ => rd_move (v := .int _ _) rfl) ?_
  refine DG.rd rfl rfl rfl (fun _ _ => rd_shr32 (k := 10) rfl rfl (rfl) (by decide)) ?_
  refine DG.rd rfl rfl rfl (fun _ _ => rd_xor32 rfl rfl) ?_
  refine DG.rd rfl rfl rfl (fun _ _ => rd_add32 rfl rfl) ?_
  refine DG.done rfl (by decide) rfl (fun gh6 => ?_)
  refine TO.rd rfl rfl (rd_ixa (k) Tryd.under157 Tryd.size126 rfl rfl (by omega) (by omega)) ?_
  refine TO.front2 ?_
  refine TO.store0 (cells' := ((wd ++ [wnext wd]).flatMap eW ++ List.replicate (64 - (k + 1)) (Value.int .u32 0)).toArray) (v := .int .u32 _) Tryd.size126 rfl rfl rfl (by rw [Nat.zero_add, Nat.mul_one]; rw [wnext_get hwl hk16, ← mixed_sx, ← mixed_sy]; exact over_snoc (l := wd) (m := 64) (k := k) (by first | exact w16_len _ _ | omega) (by omega)) (by rw [List.size_toArray, List.length_append, eW_len, List.length_replicate]; (try rw [w16_len]); omega) rfl ?_
  refine TO.nil ?_
  refine TQ.block_normal ?_
  refine TQ.then_normal ?_
  refine T.region ?_
  refine TO.rd rfl rfl (rd_move (v := .int _ _) rfl) ?_
  refine TO.rd rfl rfl (rd_add rfl rfl (w64 (by omega) (by omega))) ?_
  refine TO.rd rfl rfl (rd_assign (v := .int _ _) rfl) ?_
  refine TO.nil ?_
  refine TQ.againk (k + 1, wd ++ [wnext wd]) ?_ ?_ (And.intro (rfl) (trivial)) (And.intro (rfl) (trivial)) (fun _ _ h => h.sel (js := [0]) (by decide))
  · refine ⟨by simp [hwl], by omega, ?_, by omega⟩
    rw [← hw, show 64 - k = (64 - (k + 1)) + 1 by omega]; rfl
  · first | omega | (dsimp only; omega)
end Go.Proofs
end
section
/- Walks: what functions of the program do, by contract. Written by a program of this session. -/
set_option linter.unusedVariables false
set_option linter.unusedSimpArgs false
set_option maxRecDepth 100000
set_option maxHeartbeats 800000
namespace Go.Proofs
open Go.TL
attribute [local irreducible] Go.TL.T Go.TL.TO Go.TL.TQ
/- (*dialtone/digest.words).add -/
theorem c_words_add (bh : Nat) (h : H8) (A : Option Addr) (cap n : Nat) (b : List UInt8) (hn : n = b.length) (hb : b.length = 64) : Ctr Tryd.prog 102 #[.pointer (some ⟨bh, 0, none⟩), .slice A n cap] [glob 0 roundC 157, slc eByte 1 A b] [own bh (h8C h) 150] (γ := Unit) (fun _ => True) (fun _ => .tuple #[]) (fun _ => [own bh (h8C (shaBlock h b)) 150]) := by
  subst hn
  refine Ctr.intro Tryd.func102 rfl Tryd.ntmps102 (Nat.le_of_ble_eq_true rfl) fun S0 w0 => ?_
  refine T.seq ?_
  refine T.region ?_
  refine TO.rd rfl rfl (rd_move (v := .slice _ _ _) rfl) ?_
  refine TO.fn Tryd.enters106 (c_schedule _ _ _ _ (by first | rfl | simp | omega) (by assumption)) rfl (ReadsC (Has.arg 1 rfl) Reads0) ?_
  refine TO.alloc Tryd.zero157 (fun b1 => ?_)
  refine TO.store_all (cs := (sched b).flatMap eW) (cs0 := List.replicate 64 (Value.int .u32 0)) Tryd.size157 rfl rfl (by rw [eW_len, sched_len]) rfl (flatMap_one (fun _ => rfl) _) ?_
  refine TO.nil ?_
  refine TQ.then_normal ?_
  refine T.seq ?_
  refine T.region ?_
  refine TO.rd rfl rfl (rd_move (v := .pointer _) rfl) ?_
  refine TO.rd rfl rfl (rd_nilCheck rfl) ?_
  refine TO.rd rfl rfl (rd_load_agg (cs := #[.int _ _, .int _ _, .int _ _, .int _ _, .int _ _, .int _ _, .int _ _, .int _ _]) Tryd.agg150 rfl (Has.own 1 rfl) rfl rfl) ?_
  refine TO.alloc Tryd.zero150 (fun b2 => ?_)
  refine TO.store0 (cells' := #[.int _ _, .int _ _, .int _ _, .int _ _, .int _ _, .int _ _, .int _ _, .int _ _]) Tryd.size150 rfl (v := .agg #[.int _ _, .int _ _, .int _ _, .int _ _, .int _ _, .int _ _, .int _ _, .int _ _]) rfl rfl rfl (Nat.le_of_ble_eq_true rfl) rfl ?_
  refine TO.nil ?_
  refine TQ.then_normal ?_
  refine T.seq ?_
  refine T.seq ?_
  refine T.region ?_
  refine TO.rd rfl rfl (rd_glob (cs := roundC) Tryd.agg157 rfl (Has.arg 0 rfl) roundC_size) ?_
  refine TO.rd rfl rfl (rd_move (v := .int _ _) rfl) ?_
  refine TO.nil ?_
  refine TQ.then_normal ?_
  refine T.block ?_
  refine T.loop2 [0, 4, 5, 18] (fun (k : Nat) (v : H8) => [(19, .int .i64 (k : Nat))]) (fun (k : Nat) (v : H8) => [own b2 (h8C v) 150]) (fun (k : Nat) (v : H8) => k ≤ 64 ∧ v = rnds h ((shaK.zip (sched b)).take k)) (fun (k : Nat) (v : H8) => 64 - k) (0) (h) (⟨Nat.zero_le _, rfl⟩) (And.intro (rfl) (trivial)) (fun _ _ h => h) fun k v g0 hx0 => ?_
  obtain ⟨hk, hv⟩ := hx0
  refine T.seq ?_
  refine T.region ?_
  refine TO.rd rfl rfl (rd_lss rfl rfl) ?_
  refine TO.nil ?_
  refine TQ.then_normal ?_
  refine T.seq ?_
  refine T.cond_ft rfl (fun h3 => ?_) (fun h3 => ?_)
  · try simp only [decide_eq_true_eq, decide_eq_false_iff_not, Bool.not_eq_true', Bool.not_eq_false', Bool.not_eq_eq_eq_not, Bool.not_true, Bool.not_false, beq_iff_eq, beq_eq_false_iff_ne, bne_iff_ne, bne_eq_false_iff_eq, ne_eq, Int.not_lt, Int.not_le, Decidable.not_not] at h3
    refine T.exit ?_
    refine TQ.then_exit ?_
    refine TQ.then_exit ?_
    refine TQ.block_out ?_
    refine TQ.then_normal ?_
    refine T.seq ?_
    refine T.region ?_
    refine TO.rd rfl rfl (rd_move (v := .int _ _) rfl) ?_
    refine TO.nil ?_
    refine TQ.then_normal ?_
    refine T.block ?_
    refine T.front2 ?_
    refine T.loop1 [0, 5] (fun (k : Nat) => [(82, .int .i64 (k : Nat))]) (fun (k : Nat) => [own bh ((mixL8 h v k).flatMap eW).toArray 150]) (fun (k : Nat) => k ≤ 8) (fun (k : Nat) => 8 - k) (0) (Nat.zero_le _) (And.intro (rfl) (trivial)) (fun _ _ h => h) fun k g1 hx1 => ?_
    refine T.seq ?_
    refine T.region ?_
    refine TO.rd rfl rfl (rd_lss rfl rfl) ?_
    refine TO.nil ?_
    refine TQ.then_normal ?_
    refine T.seq ?_
    refine T.cond_ft rfl (fun h8 => ?_) (fun h8 => ?_)
    · try simp only [decide_eq_true_eq, decide_eq_false_iff_not, Bool.not_eq_true', Bool.not_eq_false', Bool.not_eq_eq_eq_not, Bool.not_true, Bool.not_false, beq_iff_eq, beq_eq_false_iff_ne, bne_iff_ne, bne_eq_false_iff_eq, ne_eq, Int.not_lt, Int.not_le, Decidable.not_not] at h8
      refine T.exit ?_
      refine TQ.then_exit ?_
      refine TQ.then_exit ?_
      refine TQ.block_out ?_
      refine TQ.own_eq (cells' := h8C (shaBlock h b)) (by rw [show k = 8 by omega, mixL8_8, hv, List.take_of_length_le (by rw [zip_len (sched_len b)]; omega)]; rfl) ?_
      refine TQ.done (()) (trivial) ?_ (fun _ _ h => h.sel (js := [0]) (by decide)) (res0 Tryd.results102) _ (.inr rfl)
      rfl
    try simp only [decide_eq_true_eq, decide_eq_false_iff_not, Bool.not_eq_true', Bool.not_eq_false', Bool.not_eq_eq_eq_not, Bool.not_true, Bool.not_false, beq_iff_eq, beq_eq_false_iff_ne, bne_iff_ne, bne_eq_false_iff_eq, ne_eq, Int.not_lt, Int.not_le, Decidable.not_not] at h8
    refine T.skip ?_
    refine TQ.then_normal ?_
    refine T.seq ?_
    refine T.block ?_
    refine T.seq ?_
    refine T.region ?_
    refine TO.rd rfl rfl (rd_move (v := .int _ _) rfl) ?_
    refine TO.rd rfl rfl (rd_assign (v := .int _ _) rfl) ?_
    refine TO.nil ?_
    refine TQ.then_normal ?_
    refine T.drawq Tryd.mixes 10 [(85, 0), (86, 1), (87, 2), (88, 3), (89, 4), (90, 5), (91, 6), (92, 7), (93, 8), (94, 9)] [0, 0, 1, 7, 15, 0, 32, 96, 255, 1, 1023, 2047] (by kernel_rfl) ?_
    refine DQ.rd rfl rfl (fun _ => rd_move (v := .pointer _) rfl) ?_
    refine DQ.rd rfl rfl (fun _ => rd_move (v := .int _ _) rfl) ?_
    refine DQ.rd rfl rfl (fun _ => rd_nilCheck rfl) ?_
    refine DQ.rd rfl rfl (fun _ => rd_ixa (k) Tryd.under150 Tryd.size126 rfl rfl (by omega) (by omega)) ?_
    refine DQ.rd rfl rfl (fun _ => rd_loadk (k) (v := .int .u32 (h.l[k]'(by rw [H8.len]; omega)).toNat) Tryd.one126 rfl (Has.own 0 rfl) rfl (mixL8_at (by omega))) ?_
    refine DQ.rd rfl rfl (fun _ => rd_move (v := .int _ _) rfl) ?_
    refine DQ.rd rfl rfl (fun _ => rd_ixa (k) Tryd.under150 Tryd.size126 rfl rfl (by omega) (by omega)) ?_
    refine DQ.rd rfl rfl (fun _ => rd_loadk (k) (v := .int .u32 (v.l[k]'(by rw [H8.len]; omega)).toNat) Tryd.one126 rfl (Has.own 1 rfl) rfl (getw' (l := v.l) (by rw [H8.len]; omega))) ?_
    refine DQ.rd rfl rfl (fun _ => rd_add32 rfl rfl) ?_
    refine DQ.rd rfl rfl (fun _ => rd_nilCheck rfl) ?_
    refine DQ.done rfl ?_
    refine TO.rd rfl rfl (rd_ixa (k) Tryd.under150 Tryd.size126 rfl rfl (by omega) (by omega)) ?_
    refine TO.store0 (cells' := ((mixL8 h v (k + 1)).flatMap eW).toArray) (v := .int .u32 _) Tryd.size126 rfl rfl rfl (by rw [Nat.zero_add, Nat.mul_one]; exact mixL8_over (by omega)) (by rw [List.size_toArray, eW_len, mixL8_len h v (by omega)]; omega) rfl ?_
    refine TO.nil ?_
    refine TQ.block_normal ?_
    refine TQ.then_normal ?_
    refine T.region ?_
    refine TO.rd rfl rfl (rd_add rfl rfl (w64 (by omega) (by omega))) ?_
    refine TO.rd rfl rfl (rd_move (v := .int _ _) rfl) ?_
    refine TO.nil ?_
    refine TQ.againk (k + 1) ?_ ?_ (And.intro (rfl) (trivial)) (And.intro (rfl) (And.intro (rfl) (trivial))) (fun _ _ h => h)
    · first | omega | (dsimp only; omega)
    · first | omega | (dsimp only; omega)
  try simp only [decide_eq_true_eq, decide_eq_false_iff_not, Bool.not_eq_true', Bool.not_eq_false', Bool.not_eq_eq_eq_not, Bool.not_true, Bool.not_false, beq_iff_eq, beq_eq_false_iff_ne, bne_iff_ne, bne_eq_false_iff_eq, ne_eq, Int.not_lt, Int.not_le, Decidable.not_not] at h3
  refine T.skip ?_
  refine TQ.then_normal ?_
  refine T.seq ?_
  refine T.block ?_
  refine T.seq ?_
  refine T.region ?_
  refine TO.rd rfl rfl (rd_move (v := .int _ _) rfl) ?_
  refine TO.rd rfl rfl (rd_index_arr (k) (v := .int .u32 (shaK[k]'(by rw [shaK_len]; omega)).toNat) Tryd.under157 Tryd.one126 Tryd.size126 rfl rfl rfl (by omega) (roundC_at (by omega))) ?_
  refine TO.rd rfl rfl (rd_assign (v := .int _ _) rfl) ?_
  refine TO.rd rfl rfl (rd_assign (v := .int _ _) rfl) ?_
  refine TO.nil ?_
  refine TQ.then_normal ?_
  refine T.seq ?_
  refine T.drawq Tryd.mixes 5 [(23, 0), (24, 1), (25, 2), (26, 3), (8, 4)] [0, 1, 0, 4, 3, 31] (by kernel_rfl) ?_
  refine DQ.rd rfl rfl (fun _ => rd_ixa 0 Tryd.under150 Tryd.size126 rfl rfl rfl (by decide)) ?_
  refine DQ.rd rfl rfl (fun _ => rd_load (v := .int _ _) Tryd.one126 rfl (Has.own 0 rfl) rfl) ?_
  refine DQ.rd rfl rfl (fun _ => rd_ixa 4 Tryd.under150 Tryd.size126 rfl rfl rfl (by decide)) ?_
  refine DQ.rd rfl rfl (fun _ => rd_load (v := .int _ _) Tryd.one126 rfl (Has.own 0 rfl) rfl) ?_
  refine DQ.rd rfl rfl (fun _ => rd_assign (v := .int _ _) rfl) ?_
  refine DQ.done rfl ?_
  refine TO.rd rfl rfl (rd_assign (v := .int _ _) rfl) ?_
  refine TO.nil ?_
  refine TQ.then_normal ?_
  refine T.seq ?_
  refine T.drawg Tryd.mixes 22 [(27, 0), (28, 1), (29, 2), (30, 3), (31, 4), (32, 5), (33, 6), (34, 7), (35, 8), (36, 9), (37, 10), (38, 11), (39, 12), (40, 13), (41, 14), (42, 15), (43, 16), (44, 17), (45, 18), (46, 19), (47, 20), (48, 21)] [0, 1, 0, 0, 12, 31, 0, 0, 128, 448, 0, 1024, 0, 4096, 15360, 32704, 65535, 0, 262143, 0, 524288, 1572864, 4194303, 8388607] [3] (by kernel_rfl) ?_
  refine DG.rd rfl rfl rfl (fun _ _ => rd_ixa 7 Tryd.under150 Tryd.size126 rfl rfl rfl (by decide)) ?_
  refine DG.rd rfl rfl rfl (fun _ _ => rd_load (v := .int _ _) Tryd.one126 rfl (Has.own 0 rfl) rfl) ?_
  refine DG.rd rfl rfl rfl (fun _ _ => rd_move (v := .int _ _) rfl) ?_
  refine DG.buildS (cs := [.int _ _, .int _ _, .int _ _]) rfl rfl Tryd.under88 Tryd.size3 Tryd.zero3 (Nat.le_of_ble_eq_true rfl) (fun _ _ => rfl) ?_
  refine DG.fnp rfl rfl Tryd.enters107 (fun ρ => c_mixed (v.e) (some ⟨(ρ 3).2, 0, none⟩) 3 3 [6, 11, 25] (by first | rfl | simp | omega) (by decide) (by decide)) (fun _ _ => rfl) (fun ρ M hM => (ReadsC (own_slc (e := eInt) [6, 11, 25] rfl (fun _ => rfl) (Has.fromM 3 (hM 3 rfl)) (by simp)) Reads0)) ?_
  refine DG.rd rfl rfl rfl (fun _ _ => rd_add32 rfl rfl) ?_
  refine DG.rd rfl rfl rfl (fun _ _ => rd_move (v := .int _ _) rfl) ?_
  refine DG.rd rfl rfl rfl (fun _ _ => rd_ixa 5 Tryd.under150 Tryd.size126 rfl rfl rfl (by decide)) ?_
  refine DG.rd rfl rfl rfl (fun _ _ => rd_load (v := .int _ _) Tryd.one126 rfl (Has.own 0 rfl) rfl) ?_
  refine DG.rd rfl rfl rfl (fun _ _ => rd_and32 rfl rfl) ?_
  refine DG.rd rfl rfl rfl (fun _ _ => rd_move (v := .int _ _) rfl) ?_
  refine DG.rd rfl rfl rfl (fun _ _ => rd_not32 rfl) ?_
  refine DG.rd rfl rfl rfl (fun _ _ => rd_ixa 6 Tryd.under150 Tryd.size126 rfl rfl rfl (by decide)) ?_
  refine DG.rd rfl rfl rfl (fun _ _ => rd_load (v := .int _ _) Tryd.one126 rfl (Has.own 0 rfl) rfl) ?_
  refine DG.rd rfl rfl rfl (fun _ _ => rd_and32 rfl rfl) ?_
  refine DG.rd rfl rfl rfl (fun _ _ => rd_xor32 rfl rfl) ?_
  refine DG.rd rfl rfl rfl (fun _ _ => rd_add32 rfl rfl) ?_
  refine DG.rd rfl rfl rfl (fun _ _ => rd_move (v := .int _ _) rfl) ?_
  refine DG.rd rfl rfl rfl (fun _ _ => rd_add32 rfl rfl) ?_
  refine DG.rd rfl rfl rfl (fun _ _ => rd_move (v := .int _ _) rfl) ?_
  refine DG.rd rfl rfl rfl (fun _ _ => rd_ixa (k) Tryd.under157 Tryd.size126 rfl rfl (by omega) (by omega)) ?_
  refine DG.rd rfl rfl rfl (fun _ _ => rd_loadk (k) (v := .int .u32 ((sched b)[k]'(by rw [sched_len]; omega)).toNat) Tryd.one126 rfl (Has.own 1 rfl) rfl (getw' (l := sched b) (by rw [sched_len]; omega))) ?_
  refine DG.done rfl (by decide) rfl (fun gh5 => ?_)
  refine TO.rd rfl rfl (rd_add32 rfl rfl) ?_
  refine TO.rd rfl rfl (rd_assign (v := .int _ _) rfl) ?_
  refine TO.nil ?_
  refine TQ.then_normal ?_
  refine T.seq ?_
  refine T.drawg Tryd.mixes 18 [(50, 0), (51, 1), (52, 2), (53, 3), (54, 4), (55, 5), (56, 6), (57, 7), (58, 8), (59, 9), (60, 10), (61, 11), (62, 12), (63, 13), (64, 14), (65, 15), (66, 16), (67, 17)] [0, 0, 3, 0, 0, 16, 56, 0, 0, 256, 896, 2040, 0, 4096, 0, 16384, 61440, 131064, 262143, 524287] [1] (by kernel_rfl) ?_
  refine DG.rd rfl rfl rfl (fun _ _ => rd_move (v := .int _ _) rfl) ?_
  refine DG.buildS (cs := [.int _ _, .int _ _, .int _ _]) rfl rfl Tryd.under88 Tryd.size3 Tryd.zero3 (Nat.le_of_ble_eq_true rfl) (fun _ _ => rfl) ?_
  refine DG.fnp rfl rfl Tryd.enters107 (fun ρ => c_mixed (v.a) (some ⟨(ρ 1).2, 0, none⟩) 3 3 [2, 13, 22] (by first | rfl | simp | omega) (by decide) (by decide)) (fun _ _ => rfl) (fun ρ M hM => (ReadsC (own_slc (e := eInt) [2, 13, 22] rfl (fun _ => rfl) (Has.fromM 1 (hM 1 rfl)) (by simp)) Reads0)) ?_
  refine DG.rd rfl rfl rfl (fun _ _ => rd_move (v := .int _ _) rfl) ?_
  refine DG.rd rfl rfl rfl (fun _ _ => rd_ixa 1 Tryd.under150 Tryd.size126 rfl rfl rfl (by decide)) ?_
  refine DG.rd rfl rfl rfl (fun _ _ => rd_load (v := .int _ _) Tryd.one126 rfl (Has.own 1 rfl) rfl) ?_
  refine DG.rd rfl rfl rfl (fun _ _ => rd_and32 rfl rfl) ?_
  refine DG.rd rfl rfl rfl (fun _ _ => rd_move (v := .int _ _) rfl) ?_
  refine DG.rd rfl rfl rfl (fun _ _ => rd_ixa 2 Tryd.under150 Tryd.size126 rfl rfl rfl (by decide)) ?_
  refine DG.rd rfl rfl rfl (fun _ _ => rd_load (v := .int _ _) Tryd.one126 rfl (Has.own 1 rfl) rfl) ?_
  refine DG.rd rfl rfl rfl (fun _ _ => rd_and32 rfl rfl) ?_
  refine DG.rd rfl rfl rfl (fun _ _ => rd_xor32 rfl rfl) ?_
  refine DG.rd rfl rfl rfl (fun _ _ => rd_ixa 1 Tryd.under150 Tryd.size126 rfl rfl rfl (by decide)) ?_
  refine DG.rd rfl rfl rfl (fun _ _ => rd_load (v := .int _ _) Tryd.one126 rfl (Has.own 1 rfl) rfl) ?_
  refine DG.rd rfl rfl rfl (fun _ _ => rd_ixa 2 Tryd.under150 Tryd.size126 rfl rfl rfl (by decide)) ?_
  refine DG.rd rfl rfl rfl (fun _ _ => rd_load (v := .int _ _) Tryd.one126 rfl (Has.own 1 rfl) rfl) ?_
  refine DG.rd rfl rfl rfl (fun _ _ => rd_and32 rfl rfl) ?_
  refine DG.rd rfl rfl rfl (fun _ _ => rd_xor32 rfl rfl) ?_
  refine DG.done rfl (by decide) rfl (fun gh7 => ?_)
  refine TO.rd rfl rfl (rd_add32 rfl rfl) ?_
  refine TO.rd rfl rfl (rd_assign (v := .int _ _) rfl) ?_
  refine TO.nil ?_
  refine TQ.then_normal ?_
  refine T.seq ?_
  refine T.drawq Tryd.mixes 2 [(69, 0), (70, 1)] [0, 0, 3] (by kernel_rfl) ?_
  refine DQ.rd rfl rfl (fun _ => rd_slice_arr (i := 1) (j := 8) (t := 150) (a := 150) Tryd.under150 Tryd.size126 rfl (.inr ⟨_, rfl⟩) (.inl ⟨rfl, rfl⟩) (by decide) (by decide) (by decide)) ?_
  refine DQ.rd rfl rfl (fun _ => rd_slice_arr (i := 0) (j := 7) (t := 150) (a := 150) Tryd.under150 Tryd.size126 rfl (.inl ⟨rfl, rfl⟩) (.inr ⟨_, rfl⟩) (by decide) (by decide) (by decide)) ?_
  refine DQ.done rfl ?_
  refine TO.front2 ?_
  refine TO.copy0 (cs := [.int _ _, .int _ _, .int _ _, .int _ _, .int _ _, .int _ _, .int _ _, .int _ _]) (cells' := #[.int _ _, .int _ _, .int _ _, .int _ _, .int _ _, .int _ _, .int _ _, .int _ _]) Tryd.under127 Tryd.size126 rfl rfl (Nat.le_of_ble_eq_true rfl) (Nat.le_of_ble_eq_true rfl) rfl rfl ?_
  refine TO.nil ?_
  refine TQ.then_normal ?_
  refine T.region ?_
  refine TO.rd rfl rfl (rd_move (v := .int _ _) rfl) ?_
  refine TO.rd rfl rfl (rd_move (v := .int _ _) rfl) ?_
  refine TO.rd rfl rfl (rd_add32 rfl rfl) ?_
  refine TO.rd rfl rfl (rd_ixa 4 Tryd.under150 Tryd.size126 rfl rfl rfl (by decide)) ?_
  refine TO.rd rfl rfl (rd_load (v := .int _ _) Tryd.one126 rfl (Has.own 0 rfl) rfl) ?_
  refine TO.rd rfl rfl (rd_move (v := .int _ _) rfl) ?_
  refine TO.rd rfl rfl (rd_add32 rfl rfl) ?_
  refine TO.rd rfl rfl (rd_ixa 0 Tryd.under150 Tryd.size126 rfl rfl rfl (by decide)) ?_
  refine TO.store0 (cells' := #[.int _ _, .int _ _, .int _ _, .int _ _, .int _ _, .int _ _, .int _ _, .int _ _]) Tryd.size126 rfl (v := .int _ _) rfl rfl rfl (Nat.le_of_ble_eq_true rfl) rfl ?_
  refine TO.rd rfl rfl (rd_ixa 4 Tryd.under150 Tryd.size126 rfl rfl rfl (by decide)) ?_
  refine TO.store0 (cells' := #[.int _ _, .int _ _, .int _ _, .int _ _, .int _ _, .int _ _, .int _ _, .int _ _]) Tryd.size126 rfl (v := .int _ _) rfl rfl rfl (Nat.le_of_ble_eq_true rfl) rfl ?_
  refine TO.own_eq (cells' := h8C (rnd v (shaK[k]'(by rw [shaK_len]; omega), (sched b)[k]'(by rw [sched_len]; omega)))) (by rw [rnd_mixed]; rfl) ?_
  refine TO.nil ?_
  refine TQ.block_normal ?_
  refine TQ.then_normal ?_
  refine T.region ?_
  refine TO.rd rfl rfl (rd_add rfl rfl (w64 (by omega) (by omega))) ?_
  refine TO.rd rfl rfl (rd_move (v := .int _ _) rfl) ?_
  refine TO.nil ?_
  refine TQ.againk (k + 1, rnd v (shaK[k]'(by rw [shaK_len]; omega), (sched b)[k]'(by rw [sched_len]; omega))) ?_ ?_ (And.intro (rfl) (trivial)) (And.intro (rfl) (And.intro (rfl) (And.intro (rfl) (And.intro (rfl) (trivial))))) (fun _ _ h => h.sel (js := [0, 3, 4]) (by decide))
  · exact ⟨by omega, by rw [hv]; exact (rnds_succ (sched_len b) (by omega)).symm⟩
  · first | omega | (dsimp only; omega)
end Go.Proofs
end
section
/- Walks: what functions of the program do, by contract. Written by a program of this session. -/
set_option linter.unusedVariables false
set_option linter.unusedSimpArgs false
set_option maxRecDepth 100000
set_option maxHeartbeats 800000
namespace Go.Proofs
open Go.TL
attribute [local irreducible] Go.TL.T Go.TL.TO Go.TL.TQ
/- (dialtone/digest.words).digest -/
theorem c_words_digest (h : H8) : Cv Tryd.prog 103 #[.agg (h8C h)] [] (.string (str (h.l.flatMap be4))) := by
  have hfl : (h.l.flatMap be4).length = 32 := by simp [H8.l, be4]
  refine Ctr.intro Tryd.func103 rfl Tryd.ntmps103 (Nat.le_of_ble_eq_true rfl) fun S0 w0 => ?_
  refine T.seq ?_
  refine T.region ?_
  refine TO.box (v := .agg #[.int _ _, .int _ _, .int _ _, .int _ _, .int _ _, .int _ _, .int _ _, .int _ _]) rfl (fun b1 => ?_)
  refine TO.rd rfl rfl (rd_assign (v := .string _) rfl) ?_
  refine TO.nil ?_
  refine TQ.then_normal ?_
  refine T.seq ?_
  refine T.region ?_
  refine TO.alloc Tryd.zero160 (fun b2 => ?_)
  refine TO.nil ?_
  refine TQ.then_normal ?_
  refine T.seq ?_
  refine T.seq ?_
  refine T.region ?_
  refine TO.rd rfl rfl (rd_load_agg (cs := #[.int _ _, .int _ _, .int _ _, .int _ _, .int _ _, .int _ _, .int _ _, .int _ _]) Tryd.agg150 rfl (Has.own 1 rfl) rfl rfl) ?_
  refine TO.rd rfl rfl (rd_move (v := .int _ _) rfl) ?_
  refine TO.nil ?_
  refine TQ.then_normal ?_
  refine T.block ?_
  refine T.loop1 [3, 7] (fun (i : Nat) => [(8, .int .i64 (i : Nat))]) (fun (i : Nat) => [own b2 (bytesC ((h.l.flatMap be4).take (4 * i)) ++ List.replicate (32 - (4 * i)) (Value.int .u8 0)).toArray 160]) (fun (i : Nat) => i ≤ 8) (fun (i : Nat) => 8 - i) (0) (Nat.zero_le _) (And.intro (rfl) (trivial)) (fun _ _ h => h) fun i g0 hx0 => ?_
  refine T.seq ?_
  refine T.region ?_
  refine TO.rd rfl rfl (rd_lss rfl rfl) ?_
  refine TO.nil ?_
  refine TQ.then_normal ?_
  refine T.seq ?_
  refine T.cond_ft rfl (fun h3 => ?_) (fun h3 => ?_)
  · try simp only [decide_eq_true_eq, decide_eq_false_iff_not, Bool.not_eq_true', Bool.not_eq_false', Bool.not_eq_eq_eq_not, Bool.not_true, Bool.not_false, beq_iff_eq, beq_eq_false_iff_ne, bne_iff_ne, bne_eq_false_iff_eq, ne_eq, Int.not_lt, Int.not_le, Decidable.not_not] at h3
    refine T.exit ?_
    refine TQ.then_exit ?_
    refine TQ.then_exit ?_
    refine TQ.block_out ?_
    refine TQ.then_normal ?_
    refine T.seq ?_
    refine T.region ?_
    refine TO.rd rfl rfl (rd_slice_arr (i := 0) (j := 32) (t := 160) (a := 160) Tryd.under160 Tryd.size5 rfl (.inl ⟨rfl, rfl⟩) (.inl ⟨rfl, rfl⟩) (by decide) (by decide) (by decide)) ?_
    refine TO.own_eq (cells' := (bytesC (h.l.flatMap be4)).toArray) (by rw [show 4 * i = 32 by omega, List.take_of_length_le (by rw [hfl]; omega)]; simp) ?_
    refine TO.torow0 1 32 (by rw [bytesC_length, hfl]) (by decide) ?_
    refine TO.rd rfl rfl (rd_row_str Tryd.under71 Tryd.under5 Tryd.under9 rfl (Has.own 0 rfl)) ?_
    refine TO.rd rfl rfl (rd_assign (v := .string _) rfl) ?_
    refine TO.nil ?_
    refine TQ.then_normal ?_
    refine T.ret ?_
    refine TQ.value ?_ (res1 Tryd.results103 (Res.tmp (v := .string _) rfl)) _ (.inl rfl)
    rfl
  try simp only [decide_eq_true_eq, decide_eq_false_iff_not, Bool.not_eq_true', Bool.not_eq_false', Bool.not_eq_eq_eq_not, Bool.not_true, Bool.not_false, beq_iff_eq, beq_eq_false_iff_ne, bne_iff_ne, bne_eq_false_iff_eq, ne_eq, Int.not_lt, Int.not_le, Decidable.not_not] at h3
  refine T.skip ?_
  refine TQ.then_normal ?_
  refine T.seq ?_
  refine T.block ?_
  refine T.seq ?_
  refine T.region ?_
  refine TO.rd rfl rfl (rd_move (v := .int _ _) rfl) ?_
  refine TO.rd rfl rfl (rd_index_arr (i) (v := .int .u32 (h.l[i]'(by rw [H8.len]; omega)).toNat) Tryd.under150 Tryd.one126 Tryd.size126 rfl rfl rfl (by omega) (h8C_at h (by omega))) ?_
  refine TO.rd rfl rfl (rd_assign (v := .int _ _) rfl) ?_
  refine TO.rd rfl rfl (rd_assign (v := .int _ _) rfl) ?_
  refine TO.nil ?_
  refine TQ.then_normal ?_
  refine T.seq ?_
  refine T.region ?_
  refine TO.rd rfl rfl (rd_move (v := .int _ _) rfl) ?_
  refine TO.nil ?_
  refine TQ.then_normal ?_
  refine T.block ?_
  refine T.loop1 [3, 4, 5, 7, 8] (fun (j : Nat) => [(12, .int .i64 (j : Nat))]) (fun (j : Nat) => [own b2 (bytesC ((h.l.flatMap be4).take (4 * i + j)) ++ List.replicate (32 - (4 * i + j)) (Value.int .u8 0)).toArray 160]) (fun (j : Nat) => j ≤ 4) (fun (j : Nat) => 4 - j) (0) (Nat.zero_le _) (And.intro (rfl) (trivial)) (fun _ _ h => h) fun j g1 hx1 => ?_
  refine T.seq ?_
  refine T.region ?_
  refine TO.rd rfl rfl (rd_lss rfl rfl) ?_
  refine TO.nil ?_
  refine TQ.then_normal ?_
  refine T.seq ?_
  refine T.cond_ft rfl (fun h4 => ?_) (fun h4 => ?_)
  · try simp only [decide_eq_true_eq, decide_eq_false_iff_not, Bool.not_eq_true', Bool.not_eq_false', Bool.not_eq_eq_eq_not, Bool.not_true, Bool.not_false, beq_iff_eq, beq_eq_false_iff_ne, bne_iff_ne, bne_eq_false_iff_eq, ne_eq, Int.not_lt, Int.not_le, Decidable.not_not] at h4
    refine T.exit ?_
    refine TQ.then_exit ?_
    refine TQ.then_exit ?_
    refine TQ.block_out ?_
    refine TQ.block_normal ?_
    refine TQ.then_normal ?_
    refine T.region ?_
    refine TO.rd rfl rfl (rd_add rfl rfl (w64 (by omega) (by omega))) ?_
    refine TO.own_eq (cells' := (bytesC ((h.l.flatMap be4).take (4 * (i + 1))) ++ List.replicate (32 - (4 * (i + 1))) (Value.int .u8 0)).toArray) (by rw [show 4 * (i + 1) = 4 * i + j by omega]) ?_
    refine TO.rd rfl rfl (rd_move (v := .int _ _) rfl) ?_
    refine TO.nil ?_
    refine TQ.againk (i + 1) ?_ ?_ (And.intro (rfl) (trivial)) (And.intro (rfl) (And.intro (rfl) (trivial))) (fun _ _ h => h)
    · first | omega | (dsimp only; omega)
    · first | omega | (dsimp only; omega)
  try simp only [decide_eq_true_eq, decide_eq_false_iff_not, Bool.not_eq_true', Bool.not_eq_false', Bool.not_eq_eq_eq_not, Bool.not_true, Bool.not_false, beq_iff_eq, beq_eq_false_iff_ne, bne_iff_ne, bne_eq_false_iff_eq, ne_eq, Int.not_lt, Int.not_le, Decidable.not_not] at h4
  refine T.skip ?_
  refine TQ.then_normal ?_
  refine T.seq ?_
  refine T.block ?_
  refine T.seq ?_
  refine T.region ?_
  refine TO.rd rfl rfl (rd_move (v := .int _ _) rfl) ?_
  refine TO.rd rfl rfl (rd_assign (v := .int _ _) rfl) ?_
  refine TO.nil ?_
  refine TQ.then_normal ?_
  refine T.region ?_
  refine TO.rd rfl rfl (rd_move (v := .int _ _) rfl) ?_
  refine TO.rd rfl rfl (rd_mul rfl rfl (w64 (by omega) (by omega))) ?_
  refine TO.rd rfl rfl (rd_move (v := .int _ _) rfl) ?_
  refine TO.rd rfl rfl (rd_add rfl rfl (w64 (by omega) (by omega))) ?_
  refine TO.rd rfl rfl (rd_move (v := .int _ _) rfl) ?_
  refine TO.rd rfl rfl (rd_move (v := .int _ _) rfl) ?_
  refine TO.rd rfl rfl (rd_mul rfl rfl (w64 (by omega) (by omega))) ?_
  refine TO.rd rfl rfl (rd_sub rfl rfl (w64 (by omega) (by omega))) ?_
  refine TO.rd rfl rfl (rd_shr32 (k := (24 - 8 * j)) rfl rfl (by omega) (by omega)) ?_
  refine TO.rd rfl rfl (rd_conv32_8 Tryd.isome126 Tryd.under5 rfl) ?_
  refine TO.rd rfl rfl (rd_ixa (4 * i + j) Tryd.under160 Tryd.size5 rfl rfl (by omega) (by omega)) ?_
  refine TO.store0 (cells' := (bytesC ((h.l.flatMap be4).take (4 * i + j + 1)) ++ List.replicate (32 - (4 * i + j + 1)) (Value.int .u8 0)).toArray) (v := .int .u8 _) Tryd.size5 rfl rfl rfl (by rw [Nat.zero_add, Nat.mul_one]; exact over_byte (dig_at (by omega) (by omega)) (by omega)) (by rw [List.size_toArray, List.length_append, bytesC_length, List.length_take, List.length_replicate, hfl]; omega) rfl ?_
  refine TO.nil ?_
  refine TQ.block_normal ?_
  refine TQ.then_normal ?_
  refine T.region ?_
  refine TO.rd rfl rfl (rd_add rfl rfl (w64 (by omega) (by omega))) ?_
  refine TO.rd rfl rfl (rd_move (v := .int _ _) rfl) ?_
  refine TO.nil ?_
  refine TQ.againk (j + 1) ?_ ?_ (And.intro (rfl) (trivial)) (And.intro (rfl) (And.intro (rfl) (And.intro (rfl) (And.intro (rfl) (And.intro (rfl) (trivial)))))) (fun _ _ h => h)
  · first | omega | (dsimp only; omega)
  · first | omega | (dsimp only; omega)
/- slices.Chunk[[]byte,byte]$1 -/
theorem c_chunk1 (b1 b2 g len cap : Nat) (h64 : len % 64 = 0) (hc : len ≤ cap) (hl : cap ≤ 9223372036854775807) : ICtr Tryd.prog 105 [.pointer (some ⟨b1, 0, none⟩), .pointer (some ⟨b2, 0, none⟩)] [own b1 #[.slice (some ⟨g, 0, none⟩) len cap] 71, own b2 #[.int .i64 64] 3] [] (len / 64) (fun k => [.slice (some ⟨g, 64 * k, none⟩) 64 64]) := by
  intro l G J Js hY
  refine Ctr.intro Tryd.func105 rfl Tryd.ntmps105 (Nat.le_of_ble_eq_true rfl) fun S0 w0 => ?_
  refine T.seq ?_
  refine T.region ?_
  refine TO.rd rfl rfl (rd_assign (v := .int _ _) rfl) ?_
  refine TO.nil ?_
  refine TQ.then_normal ?_
  refine T.block ?_
  refine T.loop1 [0, 1, 2] (fun (k : Nat) => [(4, .int .i64 ((64 * k : Nat) : Int))]) (fun (k : Nat) => [J k]) (fun (k : Nat) => k ≤ len / 64) (fun (k : Nat) => len / 64 - k) (0) (Nat.zero_le _) (And.intro (rfl) (trivial)) (fun _ _ h => h) fun k g0 hx0 => ?_
  refine T.seq ?_
  refine T.seq ?_
  refine T.region ?_
  refine TO.rd rfl rfl (rd_move (v := .int _ _) rfl) ?_
  refine TO.rd rfl rfl (rd_load (v := .slice _ _ _) Tryd.one71 rfl (Has.arg 0 rfl) rfl) ?_
  refine TO.rd rfl rfl (rd_lensl Tryd.under71 rfl) ?_
  refine TO.rd rfl rfl (rd_lss rfl rfl) ?_
  refine TO.nil ?_
  refine TQ.then_normal ?_
  refine T.cond_ft rfl (fun h1 => ?_) (fun h1 => ?_)
  · try simp only [decide_eq_true_eq, decide_eq_false_iff_not, Bool.not_eq_true', Bool.not_eq_false', Bool.not_eq_eq_eq_not, Bool.not_true, Bool.not_false, beq_iff_eq, beq_eq_false_iff_ne, bne_iff_ne, bne_eq_false_iff_eq, ne_eq, Int.not_lt, Int.not_le, Decidable.not_not] at h1
    refine T.exit ?_
    refine TQ.then_exit ?_
    refine TQ.then_exit ?_
    refine TQ.block_out ?_
    refine TQ.done (true) (trivial) ?_ (fun _ _ h => by rw [show len / 64 = k by omega]; exact h.sel (js := [0]) (by decide)) (res0 Tryd.results105) _ (.inr rfl)
    rfl
  try simp only [decide_eq_true_eq, decide_eq_false_iff_not, Bool.not_eq_true', Bool.not_eq_false', Bool.not_eq_eq_eq_not, Bool.not_true, Bool.not_false, beq_iff_eq, beq_eq_false_iff_ne, bne_iff_ne, bne_eq_false_iff_eq, ne_eq, Int.not_lt, Int.not_le, Decidable.not_not] at h1
  refine T.skip ?_
  refine TQ.then_normal ?_
  refine T.seq ?_
  refine T.block ?_
  refine T.seq ?_
  refine T.drawq Tryd.mixes 5 [(13, 0), (14, 1), (15, 2), (16, 3), (17, 4)] [0, 0, 0, 6, 14, 31, 63] (by kernel_rfl) ?_
  refine DQ.rd rfl rfl (fun _ => rd_load (v := .int _ _) Tryd.one3 rfl (Has.arg 1 rfl) rfl) ?_
  refine DQ.rd rfl rfl (fun _ => rd_load (v := .slice _ _ _) Tryd.one71 rfl (Has.arg 0 rfl) rfl) ?_
  refine DQ.rd rfl rfl (fun _ => rd_move (v := .int _ _) rfl) ?_
  refine DQ.rd rfl rfl (fun _ => rd_sub_slice (i := 64 * k) (j := len) Tryd.under71 Tryd.size5 rfl (.inr ⟨_, rfl⟩) (.inl ⟨rfl, rfl⟩) (by omega) (by omega) (by omega)) ?_
  refine DQ.rd rfl rfl (fun _ => rd_lensl Tryd.under71 rfl) ?_
  refine DQ.done rfl ?_
  refine TO.rd rfl rfl (rd_min2 (s := 64) rfl rfl (by rw [if_neg (by omega)])) ?_
  refine TO.rd rfl rfl (rd_assign (v := .int _ _) rfl) ?_
  refine TO.nil ?_
  refine TQ.then_normal ?_
  refine T.seq ?_
  refine T.region ?_
  refine TO.rd rfl rfl (rd_move (v := .func _ _ _) rfl) ?_
  refine TO.rd rfl rfl (rd_load (v := .slice _ _ _) Tryd.one71 rfl (Has.arg 0 rfl) rfl) ?_
  refine TO.rd rfl rfl (rd_move (v := .int _ _) rfl) ?_
  refine TO.rd rfl rfl (rd_move (v := .int _ _) rfl) ?_
  refine TO.rd rfl rfl (rd_move (v := .int _ _) rfl) ?_
  refine TO.rd rfl rfl (rd_add rfl rfl (w64 (by omega) (by omega))) ?_
  refine TO.rd rfl rfl (rd_move (v := .int _ _) rfl) ?_
  refine TO.rd rfl rfl (rd_move (v := .int _ _) rfl) ?_
  refine TO.rd rfl rfl (rd_add rfl rfl (w64 (by omega) (by omega))) ?_
  refine TO.rd rfl rfl (rd_slice3' (i := 64 * k) (j := 64 * k + 64) (q := 64 * k + 64) (l := 64) (o' := 64 * k) Tryd.under71 Tryd.size5 rfl rfl rfl rfl (by omega) (by omega) (by omega) (by omega) (by omega) (by omega) (by omega) (by omega) (by omega) (by omega)) ?_
  refine TO.yield2 rfl (hY k (by omega)) rfl (fun X hX => Has.mem (List.mem_append_right _ hX)) ?_ ?_
  · refine TO.rd rfl rfl (rd_not rfl) ?_
    refine TO.nil ?_
    refine TQ.then_normal ?_
    refine T.cond_true rfl ?_
    refine T.ret ?_
    refine TQ.block_ret ?_
    refine TQ.then_ret ?_
    refine TQ.then_ret ?_
    refine TQ.block_ret ?_
    refine TQ.done (false) (trivial) ?_ (fun _ _ h => h.sel (js := [0]) (by decide)) (res0 Tryd.results105) _ (.inl rfl)
    rfl
  refine TO.rd rfl rfl (rd_not rfl) ?_
  refine TO.nil ?_
  refine TQ.then_normal ?_
  refine T.cond_false rfl ?_
  refine T.skip ?_
  refine TQ.block_normal ?_
  refine TQ.then_normal ?_
  refine T.region ?_
  refine TO.rd rfl rfl (rd_move (v := .int _ _) rfl) ?_
  refine TO.rd rfl rfl (rd_load (v := .int _ _) Tryd.one3 rfl (Has.arg 1 rfl) rfl) ?_
  refine TO.rd rfl rfl (rd_add rfl rfl (w64 (by omega) (by omega))) ?_
  refine TO.rd rfl rfl (rd_assign (v := .int _ _) rfl) ?_
  refine TO.nil ?_
  refine TQ.againk (k + 1) ?_ ?_ (And.intro (rfl) (trivial)) (And.intro (rfl) (And.intro (rfl) (And.intro (rfl) (trivial)))) (fun _ _ h => h)
  · first | omega | (dsimp only; omega)
  · first | omega | (dsimp only; omega)
/- slices.Chunk[[]byte,byte] -/
theorem c_chunk (A : Option Addr) (len cap : Nat) : Ctr Tryd.prog 101 #[.slice A len cap, .int .i64 64] [] [] (γ := Nat × Nat) (fun x => True) (fun x => .func (.func 105) #[] #[.pointer (some ⟨x.1, 0, none⟩), .pointer (some ⟨x.2, 0, none⟩)]) (fun x => [own x.1 #[.slice A len cap] 71, own x.2 #[.int .i64 64] 3]) := by
  refine Ctr.intro Tryd.func101 rfl Tryd.ntmps101 (Nat.le_of_ble_eq_true rfl) fun S0 w0 => ?_
  refine T.seq ?_
  refine T.region ?_
  refine TO.box (v := .slice _ _ _) rfl (fun b1 => ?_)
  refine TO.box (v := .int _ _) rfl (fun b2 => ?_)
  refine TO.rd rfl rfl (rd_assign (v := .nilFunc) rfl) ?_
  refine TO.nil ?_
  refine TQ.then_normal ?_
  refine T.seq ?_
  refine T.seq ?_
  refine T.region ?_
  refine TO.rd rfl rfl (rd_load (v := .int _ _) Tryd.one3 rfl (Has.own 0 rfl) rfl) ?_
  refine TO.rd rfl rfl (rd_lss rfl rfl) ?_
  refine TO.nil ?_
  refine TQ.then_normal ?_
  refine T.cond rfl (fun h3 => ?_) (fun h3 => ?_)
  · try simp only [decide_eq_true_eq, decide_eq_false_iff_not, Bool.not_eq_true', Bool.not_eq_false', Bool.not_eq_eq_eq_not, Bool.not_true, Bool.not_false, beq_iff_eq, beq_eq_false_iff_ne, bne_iff_ne, bne_eq_false_iff_eq, ne_eq, Int.not_lt, Int.not_le, Decidable.not_not] at h3
    exfalso
    first | omega | (simp at h3; done) | (simp at h3; omega)
  try simp only [decide_eq_true_eq, decide_eq_false_iff_not, Bool.not_eq_true', Bool.not_eq_false', Bool.not_eq_eq_eq_not, Bool.not_true, Bool.not_false, beq_iff_eq, beq_eq_false_iff_ne, bne_iff_ne, bne_eq_false_iff_eq, ne_eq, Int.not_lt, Int.not_le, Decidable.not_not] at h3
  refine T.skip ?_
  refine TQ.then_normal ?_
  refine T.seq ?_
  refine T.region ?_
  refine TO.rd rfl rfl (rd_clo (b := [_, _]) rfl) ?_
  refine TO.rd rfl rfl (rd_assign (v := .func _ _ _) rfl) ?_
  refine TO.nil ?_
  refine TQ.then_normal ?_
  refine T.ret ?_
  refine TQ.done ((b1, b2)) (trivial) ?_ (fun _ _ h => h.sel (js := [1, 0]) (by decide)) (res1 Tryd.results101 (Res.tmp (v := .func _ _ _) rfl)) _ (.inl rfl)
  rfl
end Go.Proofs
end
section
/- Facts on the types and functions that the walks of this seat use. Written by a program of this session. -/
set_option linter.unusedVariables false
set_option linter.unusedSimpArgs false
set_option maxRecDepth 100000
set_option maxHeartbeats 800000
namespace Go.Proofs
open Go.TL
attribute [local irreducible] Go.TL.T Go.TL.TO Go.TL.TQ
theorem Tryd.big100 : TyBig Tryd.prog 100 := (by kernel_rfl : (Tryd.prog.info? 100).any (fun j => j.size != 0) = true)
theorem Tryd.cells1_5 : Tryd.prog.cellsOf 5 = 1 := by kernel_rfl
theorem Tryd.field100_0 : TyField Tryd.prog 100 0 0 := fun a w => by kernel_rfl
theorem Tryd.one98 : TyOne Tryd.prog 98 := ⟨fun w => by kernel_rfl, fun w => by kernel_rfl⟩
theorem Tryd.same96 : Same Tryd.prog 96 := fun v w => by kernel_rfl
theorem Tryd.size98 : ∀ w, (sizeOf 98).run Tryd.prog w = .ok 1 w := fun w => by kernel_rfl
theorem Tryd.under133 : Tryd.prog.underlying 133 = some (.pointer 5) := by kernel_rfl
theorem Tryd.under145 : Tryd.prog.underlying 145 = some (.unsafePointer) := by kernel_rfl
theorem Tryd.under98 : Tryd.prog.underlying 98 = some (.pointer 100) := by kernel_rfl
end Go.Proofs
end
section
/- Walks: what functions of the program do, by contract. Written by a program of this session. -/
set_option linter.unusedVariables false
set_option linter.unusedSimpArgs false
set_option maxRecDepth 100000
set_option maxHeartbeats 800000
namespace Go.Proofs
open Go.TL
attribute [local irreducible] Go.TL.T Go.TL.TO Go.TL.TQ
/- (*strings.Builder).copyCheck -/
theorem c_copyCheck (b tb : Nat) (av : Value) (A0 : Option Addr) (n0 c0 : Nat) (hav : av = .pointer none ∨ av = .pointer (some ⟨b, 0, none⟩)) (hT : liesAt Tryd.prog Tryd.prog.depth tb (2 / Tryd.prog.cellsOf tb) 0 100 1 = true) : Ctr Tryd.prog 85 #[.pointer (some ⟨b, 0, none⟩)] [] [own b #[av, .slice A0 n0 c0] tb] (γ := Unit) (fun _ => True) (fun _ => .tuple #[]) (fun _ => [own b #[.pointer (some ⟨b, 0, none⟩), .slice A0 n0 c0] tb]) := by
  rcases hav with rfl | rfl
  · refine Ctr.intro Tryd.func85 rfl Tryd.ntmps85 (Nat.le_of_ble_eq_true rfl) fun S0 w0 => ?_
    refine T.seq ?_
    refine T.region ?_
    refine TO.rd rfl rfl (rd_move (v := .pointer _) rfl) ?_
    refine TO.rd rfl rfl (rd_nilCheck rfl) ?_
    refine TO.rd rfl rfl (rd_fieldAddr Tryd.field100_0 rfl) ?_
    refine TO.rd rfl rfl (rd_load (v := .pointer _) Tryd.one98 rfl (Has.own 0 rfl) rfl) ?_
    refine TO.rd rfl rfl (rd_eqpn Tryd.under98 rfl rfl) ?_
    refine TO.nil ?_
    refine TQ.then_normal ?_
    refine T.cond_true rfl ?_
    refine T.region ?_
    refine TO.rd rfl rfl (rd_move (v := .pointer _) rfl) ?_
    refine TO.rd rfl rfl (rd_move (v := .pointer _) rfl) ?_
    refine TO.rd rfl rfl (rd_to_unsafe Tryd.under98 Tryd.under145 Tryd.big100 rfl (Has.own 0 rfl) (Nat.succ_pos 1)) ?_
    refine TO.rd rfl rfl (rd_same Tryd.same96 rfl rfl) ?_
    refine TO.rd rfl rfl (rd_from_unsafe Tryd.under145 Tryd.under98 Tryd.big100 rfl (Has.own 0 rfl) hT) ?_
    refine TO.rd rfl rfl (rd_nilCheck rfl) ?_
    refine TO.rd rfl rfl (rd_fieldAddr Tryd.field100_0 rfl) ?_
    refine TO.store0 (cells' := #[.pointer _, .slice _ _ _]) Tryd.size98 rfl (v := .pointer _) rfl rfl rfl (Nat.le_of_ble_eq_true rfl) rfl ?_
    refine TO.nil ?_
    refine TQ.done (()) (trivial) ?_ (fun _ _ h => h.sel (js := [0]) (by decide)) (res0 Tryd.results85) _ (.inr rfl)
    rfl
  · refine Ctr.intro Tryd.func85 rfl Tryd.ntmps85 (Nat.le_of_ble_eq_true rfl) fun S0 w0 => ?_
    refine T.seq ?_
    refine T.region ?_
    refine TO.rd rfl rfl (rd_move (v := .pointer _) rfl) ?_
    refine TO.rd rfl rfl (rd_nilCheck rfl) ?_
    refine TO.rd rfl rfl (rd_fieldAddr Tryd.field100_0 rfl) ?_
    refine TO.rd rfl rfl (rd_load (v := .pointer _) Tryd.one98 rfl (Has.own 0 rfl) rfl) ?_
    refine TO.rd rfl rfl (rd_eqps Tryd.under98 rfl rfl) ?_
    refine TO.nil ?_
    refine TQ.then_normal ?_
    refine T.cond_false rfl ?_
    refine T.seq ?_
    refine T.region ?_
    refine TO.rd rfl rfl (rd_move (v := .pointer _) rfl) ?_
    refine TO.rd rfl rfl (rd_nilCheck rfl) ?_
    refine TO.rd rfl rfl (rd_fieldAddr Tryd.field100_0 rfl) ?_
    refine TO.rd rfl rfl (rd_load (v := .pointer _) Tryd.one98 rfl (Has.own 0 rfl) rfl) ?_
    refine TO.rd rfl rfl (rd_move (v := .pointer _) rfl) ?_
    refine TO.rd rfl rfl (rd_neqp' Tryd.under98 Tryd.big100 rfl rfl) ?_
    refine TO.nil ?_
    refine TQ.then_normal ?_
    refine T.cond_false rfl ?_
    refine T.skip ?_
    refine TQ.done (()) (trivial) ?_ (fun _ _ h => h.sel (js := [0]) (by decide)) (res0 Tryd.results85) _ (.inr rfl)
    rfl
/- (*strings.Builder).WriteString -/
theorem c_WriteString (b tb : Nat) (t : Bytes) (s : Bytes) (hT : liesAt Tryd.prog Tryd.prog.depth tb (2 / Tryd.prog.cellsOf tb) 0 100 1 = true) (hl : t.length + s.length ≤ 1000000000000) : Ctr Tryd.prog 64 #[.pointer (some ⟨b, 0, none⟩), .string (str s)] [] [bld 5 tb b t] (γ := Unit) (fun _ => True) (fun _ => .tuple #[.int .i64 s.length, .nilIface]) (fun _ => [bld 5 tb b (t ++ s)]) := by
  refine Ctr.intro Tryd.func64 rfl Tryd.ntmps64 (Nat.le_of_ble_eq_true rfl) fun S0 w0 => ?_
  refine T.open_bld fun av A0 c0 hav => ?_
  refine T.seq ?_
  refine T.region ?_
  refine TO.rd rfl rfl (rd_assign (v := .int _ _) rfl) ?_
  refine TO.rd rfl rfl (rd_assign (v := _) rfl) ?_
  refine TO.nil ?_
  refine TQ.then_normal ?_
  refine T.seq ?_
  refine T.region ?_
  refine TO.rd rfl rfl (rd_move (v := .pointer _) rfl) ?_
  refine TO.hand Tryd.enters85 rfl (c_copyCheck _ _ _ _ _ _ (by first | assumption | exact .inl rfl | exact .inr rfl) hT) rfl rfl Reads0 (fun _ hx1 => ?_)
  refine TO.nil ?_
  refine TQ.then_normal ?_
  refine T.seq ?_
  refine T.region ?_
  refine TO.rd rfl rfl (rd_move (v := .pointer _) rfl) ?_
  refine TO.rd rfl rfl (rd_move (v := .pointer _) rfl) ?_
  refine TO.rd rfl rfl (rd_nilCheck rfl) ?_
  refine TO.rd rfl rfl (rd_fieldAddr Tryd.field100_1 rfl) ?_
  refine TO.rd rfl rfl (rd_load (v := .slice _ _ _) Tryd.one71 rfl (Has.own 0 rfl) rfl) ?_
  refine TO.rd rfl rfl (rd_move (v := .string _) rfl) ?_
  refine TO.front1 ?_
  refine TO.app Tryd.trow5 Tryd.under71 (.inr Tryd.under9) rfl rfl (fun _ _ _ _ => Src.ofStr) (by simp [bytesC_length]) (List.all_eq_true.2 (bytesC_one _)) (by omega) (fun A2 c3 hc4 => ?_)
  refine TO.rd rfl rfl (rd_nilCheck rfl) ?_
  refine TO.rd rfl rfl (rd_fieldAddr Tryd.field100_1 rfl) ?_
  refine TO.front1 ?_
  refine TO.store0 (cells' := #[.pointer _, .slice _ _ _]) Tryd.size71 rfl (v := .slice _ _ _) rfl rfl rfl (Nat.le_of_ble_eq_true rfl) rfl ?_
  refine TO.nil ?_
  refine TQ.then_normal ?_
  refine T.seq ?_
  refine T.region ?_
  refine TO.rd rfl rfl (rd_move (v := .string _) rfl) ?_
  refine TO.rd rfl rfl (rd_lens' Tryd.under9 rfl) ?_
  refine TO.rd rfl rfl (rd_assign (v := .int _ _) rfl) ?_
  refine TO.rd rfl rfl (rd_assign (v := _) rfl) ?_
  refine TO.nil ?_
  refine TQ.then_normal ?_
  refine T.ret ?_
  refine TQ.front1 ?_
  refine TQ.front1 ?_
  refine TQ.conv (fun _ _ h => Seps.tobld (t := t ++ s) (.inr rfl) (by simp) ((bytesC_append t s).symm) h) ?_
  refine TQ.done (()) (trivial) ?_ (fun _ _ h => h.sel (js := [0]) (by decide)) (res2 Tryd.results64 (Res.tmp (v := .int _ _) rfl) (Res.tmp (v := _) rfl)) _ (.inl rfl)
  rfl
/- (*strings.Builder).WriteByte -/
theorem c_WriteByte (b tb : Nat) (t : Bytes) (c : UInt8) (hT : liesAt Tryd.prog Tryd.prog.depth tb (2 / Tryd.prog.cellsOf tb) 0 100 1 = true) (hl : t.length ≤ 1000000000000) : Ctr Tryd.prog 60 #[.pointer (some ⟨b, 0, none⟩), .int .u8 c.toNat] [] [bld 5 tb b t] (γ := Unit) (fun _ => True) (fun _ => .nilIface) (fun _ => [bld 5 tb b (t ++ [c])]) := by
  refine Ctr.intro Tryd.func60 rfl Tryd.ntmps60 (Nat.le_of_ble_eq_true rfl) fun S0 w0 => ?_
  refine T.open_bld fun av A0 c0 hav => ?_
  refine T.seq ?_
  refine T.region ?_
  refine TO.rd rfl rfl (rd_assign (v := _) rfl) ?_
  refine TO.nil ?_
  refine TQ.then_normal ?_
  refine T.seq ?_
  refine T.region ?_
  refine TO.rd rfl rfl (rd_move (v := .pointer _) rfl) ?_
  refine TO.hand Tryd.enters85 rfl (c_copyCheck _ _ _ _ _ _ (by first | assumption | exact .inl rfl | exact .inr rfl) hT) rfl rfl Reads0 (fun _ hx1 => ?_)
  refine TO.nil ?_
  refine TQ.then_normal ?_
  refine T.seq ?_
  refine T.region ?_
  refine TO.rd rfl rfl (rd_move (v := .pointer _) rfl) ?_
  refine TO.rd rfl rfl (rd_move (v := .pointer _) rfl) ?_
  refine TO.rd rfl rfl (rd_nilCheck rfl) ?_
  refine TO.rd rfl rfl (rd_fieldAddr Tryd.field100_1 rfl) ?_
  refine TO.rd rfl rfl (rd_load (v := .slice _ _ _) Tryd.one71 rfl (Has.own 0 rfl) rfl) ?_
  refine TO.rd rfl rfl (rd_move (v := .int _ _) rfl) ?_
  refine TO.buildS (cs := [.int _ _]) Tryd.under71 Tryd.size5 Tryd.zero5 (Nat.le_of_ble_eq_true rfl) rfl (fun b2 => ?_)
  refine TO.front2 ?_
  refine TO.app Tryd.trow5 Tryd.under71 (.inl ⟨_, Tryd.under71⟩) rfl rfl (Src.own1 1 rfl rfl) rfl rfl (by omega) (fun A3 c4 hc5 => ?_)
  refine TO.rd rfl rfl (rd_nilCheck rfl) ?_
  refine TO.rd rfl rfl (rd_fieldAddr Tryd.field100_1 rfl) ?_
  refine TO.front2 ?_
  refine TO.store0 (cells' := #[.pointer _, .slice _ _ _]) Tryd.size71 rfl (v := .slice _ _ _) rfl rfl rfl (Nat.le_of_ble_eq_true rfl) rfl ?_
  refine TO.nil ?_
  refine TQ.then_normal ?_
  refine T.seq ?_
  refine T.region ?_
  refine TO.rd rfl rfl (rd_assign (v := _) rfl) ?_
  refine TO.nil ?_
  refine TQ.then_normal ?_
  refine T.ret ?_
  refine TQ.front1 ?_
  refine TQ.front1 ?_
  refine TQ.conv (fun _ _ h => Seps.tobld (t := t ++ [c]) (.inr rfl) (by simp) ((bytesC_append t [c]).symm) h) ?_
  refine TQ.done (()) (trivial) ?_ (fun _ _ h => h.sel (js := [0]) (by decide)) (res1 Tryd.results60 (Res.tmp (v := _) rfl)) _ (.inl rfl)
  rfl
/- (*strings.Builder).String -/
theorem c_String (b tb : Nat) (t : Bytes) (h0 : t ≠ []) : Ctr Tryd.prog 61 #[.pointer (some ⟨b, 0, none⟩)] [] [bld 5 tb b t] (γ := Unit) (fun _ => True) (fun _ => .string (str t)) (fun _ => []) := by
  refine Ctr.intro Tryd.func61 rfl Tryd.ntmps61 (Nat.le_of_ble_eq_true rfl) fun S0 w0 => ?_
  refine T.open_bld fun av A0 c0 hav => ?_
  refine T.front1 ?_
  refine T.rowbase (by have := List.length_pos_iff.2 h0; omega) fun b1 hb1 hc0 => ?_
  subst hb1
  refine T.seq ?_
  refine T.region ?_
  refine TO.rd rfl rfl (rd_assign (v := .string _) rfl) ?_
  refine TO.nil ?_
  refine TQ.then_normal ?_
  refine T.seq ?_
  refine T.drawq Tryd.mixes 10 [(3, 0), (4, 1), (5, 2), (6, 3), (7, 4), (8, 5), (9, 6), (10, 7), (11, 8), (12, 9)] [0, 1, 3, 7, 15, 0, 32, 96, 224, 480, 1023, 2047] (by kernel_rfl) ?_
  refine DQ.rd rfl rfl (fun _ => rd_move (v := .pointer _) rfl) ?_
  refine DQ.rd rfl rfl (fun _ => rd_nilCheck rfl) ?_
  refine DQ.rd rfl rfl (fun _ => rd_fieldAddr Tryd.field100_1 rfl) ?_
  refine DQ.rd rfl rfl (fun _ => rd_load (v := .slice _ _ _) Tryd.one71 rfl (Has.own 1 rfl) rfl) ?_
  refine DQ.rd rfl rfl (fun _ => rd_sliceData rfl (by have := List.length_pos_iff.2 h0; omega)) ?_
  refine DQ.rd rfl rfl (fun _ => rd_move (v := .pointer _) rfl) ?_
  refine DQ.rd rfl rfl (fun _ => rd_nilCheck rfl) ?_
  refine DQ.rd rfl rfl (fun _ => rd_fieldAddr Tryd.field100_1 rfl) ?_
  refine DQ.rd rfl rfl (fun _ => rd_load (v := .slice _ _ _) Tryd.one71 rfl (Has.own 1 rfl) rfl) ?_
  refine DQ.rd rfl rfl (fun _ => rd_lensl Tryd.under71 rfl) ?_
  refine DQ.done rfl ?_
  refine TO.ustr Tryd.under133 Tryd.cells1_5 rfl rfl h0 ?_
  refine TO.rd rfl rfl (rd_assign (v := .string _) rfl) ?_
  refine TO.nil ?_
  refine TQ.then_normal ?_
  refine T.ret ?_
  refine TQ.done (()) (trivial) ?_ (fun _ _ _ => by exact trivial) (res1 Tryd.results61 (Res.tmp (v := .string _) rfl)) _ (.inl rfl)
  rfl
end Go.Proofs
end
