/- The tied card of WishReads: whatever the input, the law returns true, and each argument reads behind the call as it did. No condition beyond the card's own. -/
import Derived.Test.YtlcbpicpociipaaDoorB5
import Derived.JoinedOf
import Derived.SevenTiedAt
import Derived.Test.YtlcbpicpociipaaDoorCards
import Derived.Test.YtlcbpicpociipaaDoorProg
import Derived.Test.YtlcbpicpociipaaDoorRows
import Derived.Test.YtlcbpicpociipaaDoorTie
section
/- What every card of this seat leans on: the types of the arguments, the listed variable. -/
set_option linter.unusedVariables false
set_option linter.unusedSimpArgs false
set_option maxRecDepth 100000
namespace Go.Proofs.YtlcbpicpociipaaDoor
open Go Go.TL Go.ChangeShapes Go.WideShapes Go.RowKit
theorem Tryd.own : ownKnob Tryd.prog.godebug = none := by kernel_rfl
theorem Tryd.laidOut : laidOutB Tryd.prog = true := by kernel_rfl
theorem Tryd.tyI : Tryd.prog.underlying 3 = some (.int .i64) := by kernel_rfl
theorem Tryd.tyB : Tryd.prog.underlying 4 = some .bool := by kernel_rfl
theorem Tryd.tyS : Tryd.prog.underlying 9 = some .string := by kernel_rfl
theorem Tryd.ty8 : Tryd.prog.underlying 5 = some (.int .u8) := by kernel_rfl
theorem Tryd.numTy : NumTy Tryd.prog 25 22 23 76 3 := ⟨by kernel_rfl, by kernel_rfl, by kernel_rfl, by kernel_rfl, by kernel_rfl, by kernel_rfl, by kernel_rfl, by kernel_rfl, by kernel_rfl, by kernel_rfl⟩
abbrev laidC : List (String × DataW Unit) := [("dialtone/digest.round", Rows.laid_dialtone_digest_round)]
def roundZ : List Int := shaK.map fun x => (x.toNat : Int)
theorem round_eq : (roundZ.map (.int .u32 ·)).toArray = roundC := by kernel_rfl
theorem round_datum : (Rows.laid_dialtone_digest_round : DataW Unit) = .agg (roundZ.map fun z => .lit (.int .u32 z)) := by kernel_rfl
theorem glob_round {W : World} (h : laidMetH Tryd.prog laidC W) (hsh : W.ShapedOpen Tryd.prog) : (glob 0 roundC 157).on (fun b => b < W.heap.size) W := by
  have := glob_of (P := Tryd.prog) (t := 157) (e := 126) (m := 64) (zs := roundZ) (by kernel_rfl) rfl round_datum (by kernel_rfl) (by kernel_rfl) (by kernel_rfl) (by kernel_rfl) (by kernel_rfl) (by kernel_rfl) (by kernel_rfl) (by kernel_rfl) (by kernel_rfl) h hsh
  rwa [round_eq] at this
end Go.Proofs.YtlcbpicpociipaaDoor
end
section
/- Facts on the types and functions that the walks of this seat use. Written by a program of this session. -/
set_option linter.unusedVariables false
set_option linter.unusedSimpArgs false
set_option maxRecDepth 100000
set_option maxHeartbeats 800000
namespace Go.Proofs
open Go.TL
attribute [local irreducible] Go.TL.T Go.TL.TO Go.TL.TQ
theorem Tryd.agg25 : TyAgg Tryd.prog 25 8 := ⟨fun w => by kernel_rfl, fun w => by kernel_rfl⟩
theorem Tryd.enters10 : Enters Tryd.prog 10 := fun args w => by kernel_rfl
theorem Tryd.enters11 : Enters Tryd.prog 11 := fun args w => by kernel_rfl
theorem Tryd.enters16 : Enters Tryd.prog 16 := fun args w => by kernel_rfl
end Go.Proofs
end
section
/- What a valid wish is, and what becomes of it when something is left out, doubled or exchanged, in plain Lean. No program is named here. -/
set_option linter.unusedVariables false
set_option linter.unusedSimpArgs false
namespace Go.TL
structure Good (ks : List Bytes) (w : Wish) (l : List Proxy) (nu t : Int) : Prop where
  keys : ks.length ≤ 64 ∧ firstIx (keyP ks) ks.length = none
  wok : wishOk w = true
  len : l.length ≤ 4
  forms : okTo (formP l) l.length
  tim : w.slo ≤ t ∧ t < w.shi
  num : w.rlo ≤ nu ∧ nu < w.rhi
  chain : okTo (chainP w.holder l) l.length
  who : w.signer = whoAt w.holder l l.length
  scope : okTo (scopeP l) l.length
  last : 0 < l.length → inScope w.rlo w.rhi w.slo w.shi (l.getD (l.length - 1) proxy0) = true
  seals : okTo (sealP ks l) l.length
  sl : sealBadW ks w = false
theorem oneOr_fst {o : Option Nat} {r : Int} {k : Int × Int} (h : (oneOr o r k).1 = 0) (hr : r ≠ 0) : o = none ∧ k.1 = 0 := by
  cases o with
  | none => exact ⟨rfl, h⟩
  | some i => exact absurd h hr
theorem good_of {ks : List Bytes} {w : Wish} {l : List Proxy} {nu t : Int} (h : validOf ks w l nu t = true) : Good ks w l nu t := by
  have h' : (whyOf ks w l nu t).1 = 0 := by simpa [validOf] using h
  unfold whyOf at h'
  split at h'
  · exact absurd h' (by simp)
  rename_i e0
  obtain ⟨e1, h'⟩ := oneOr_fst h' (by decide)
  split at h'
  · exact absurd h' (by simp)
  rename_i e2
  split at h'
  · exact absurd h' (by simp)
  rename_i e3
  obtain ⟨e4, h'⟩ := oneOr_fst h' (by decide)
  split at h'
  · exact absurd h' (by simp)
  rename_i e5
  obtain ⟨e6, h'⟩ := oneOr_fst h' (by decide)
  split at h'
  · exact absurd h' (by simp)
  rename_i e7
  obtain ⟨e8, h'⟩ := oneOr_fst h' (by decide)
  split at h'
  · exact absurd h' (by simp)
  rename_i e9
  have n1 : ¬ 64 < ks.length := fun h => e0 (.inl h)
  have n2 : ¬ wishOk w = false := fun h => e0 (.inr (.inl h))
  have n3 : ¬ 4 < l.length := fun h => e0 (.inr (.inr (.inl h)))
  have n4 : firstIx (keyP ks) ks.length = none := Decidable.not_not.1 fun h => e0 (.inr (.inr (.inr h)))
  exact ⟨⟨by omega, n4⟩, by simpa using n2, by omega, firstIx_none_iff.1 e1, ⟨by omega, by omega⟩, ⟨by omega, by omega⟩, firstIx_none_iff.1 e4, Decidable.not_not.1 e5, firstIx_none_iff.1 e6,
    fun h => by cases hb : inScope w.rlo w.rhi w.slo w.shi (l.getD (l.length - 1) proxy0) with
      | true => rfl
      | false => exact absurd ⟨h, hb⟩ e7, firstIx_none_iff.1 e8, by simpa using e9⟩
theorem inScope_iff {a b c d : Int} {p : Proxy} : inScope a b c d p = true ↔ p.rlo ≤ a ∧ b ≤ p.rhi ∧ p.slo ≤ c ∧ d ≤ p.shi := by
  simp only [inScope, scopeOk, Bool.and_eq_true, decide_eq_true_eq]
theorem Good.cover {ks : List Bytes} {w : Wish} {l : List Proxy} {nu t : Int} (g : Good ks w l nu t) : ∀ (j : Nat), j < l.length → (l.getD (l.length - 1 - j) proxy0).rlo ≤ w.rlo ∧ w.rhi ≤ (l.getD (l.length - 1 - j) proxy0).rhi ∧ (l.getD (l.length - 1 - j) proxy0).slo ≤ w.slo ∧ w.shi ≤ (l.getD (l.length - 1 - j) proxy0).shi
  | 0, h => inScope_iff.1 (g.last h)
  | j + 1, h => by
    have ih := g.cover j (by omega)
    have hs := g.scope (l.length - 1 - j) (by omega)
    rw [scopeP, decide_eq_true (by omega), Bool.true_and, Bool.not_eq_false', inScope_iff] at hs
    rw [show l.length - 1 - (j + 1) = l.length - 1 - j - 1 by omega]
    omega
theorem Good.at_ {ks : List Bytes} {w : Wish} {l : List Proxy} {nu t : Int} (g : Good ks w l nu t) {i : Nat} (h : i < l.length) : (l[i]'h).frm = whoAt w.holder l i ∧ (l[i]'h).rlo ≤ nu ∧ nu < (l[i]'h).rhi ∧ (l[i]'h).slo ≤ t ∧ t < (l[i]'h).shi := by
  have hc := g.cover (l.length - 1 - i) (by omega)
  rw [show l.length - 1 - (l.length - 1 - i) = i by omega, getD_get _ h] at hc
  have h1 := g.chain i h
  rw [chainP, getD_get _ h] at h1
  have h2 := g.tim
  have h3 := g.num
  refine ⟨by simpa using h1, ?_⟩
  omega

/-! ### One proxy is left out, or stands twice -/
def lessL (l : List Proxy) (k : Nat) : List Proxy := (l.take k) ++ (l.drop (k + 1))
def twiceL (l : List Proxy) (k : Nat) : List Proxy := (l.take (k + 1)) ++ (l.drop k)
theorem less_len {l : List Proxy} {k : Nat} (h : k < l.length) : (lessL l k).length = l.length - 1 := by simp [lessL]; omega
theorem twice_len {l : List Proxy} {k : Nat} (h : k < l.length) : (twiceL l k).length = l.length + 1 := by simp [twiceL]; omega
theorem less_get {l : List Proxy} {k : Nat} (h : k < l.length) (i : Nat) : (lessL l k).getD i proxy0 = if i < k then l.getD i proxy0 else l.getD (i + 1) proxy0 := by
  simp only [lessL, List.getD_eq_getElem?_getD]
  split
  · rw [List.getElem?_append_left (by simp; omega), List.getElem?_take, if_pos (by omega)]
  · rw [List.getElem?_append_right (by simp; omega), List.getElem?_drop]
    simp only [List.length_take]
    congr 2
    omega
theorem twice_get {l : List Proxy} {k : Nat} (h : k < l.length) (i : Nat) : (twiceL l k).getD i proxy0 = if i ≤ k then l.getD i proxy0 else l.getD (i - 1) proxy0 := by
  simp only [twiceL, List.getD_eq_getElem?_getD]
  split
  · rw [List.getElem?_append_left (by simp; omega), List.getElem?_take, if_pos (by omega)]
  · rw [List.getElem?_append_right (by simp; omega), List.getElem?_drop]
    simp only [List.length_take]
    congr 2
    omega
theorem less_who {h : Int} {l : List Proxy} {k : Nat} (hk : k < l.length) : ∀ {i : Nat}, i ≤ k → whoAt h (lessL l k) i = whoAt h l i
  | 0, _ => rfl
  | i + 1, hi => by rw [whoAt, whoAt, less_get hk, if_pos (by omega)]
theorem twice_who {h : Int} {l : List Proxy} {k : Nat} (hk : k < l.length) : ∀ {i : Nat}, i ≤ k + 1 → whoAt h (twiceL l k) i = whoAt h l i
  | 0, _ => rfl
  | i + 1, hi => by rw [whoAt, whoAt, twice_get hk, if_pos (by omega)]
theorem form_ne {p : Proxy} (h : proxyOk p = true) : p.frm ≠ p.to := by
  simp only [proxyOk, Bool.and_eq_true, bne_iff_ne] at h
  exact h.2.2.1
theorem Made.hop {w : Wish} {l : List Proxy} (M : Made w l) {k : Nat} (h : k < l.length) : (l.getD k proxy0).frm = whoAt w.holder l k ∧ (l.getD k proxy0).frm ≠ whoAt w.holder l (k + 1) := by
  have h1 := M.chain k h
  have h2 := M.forms k h
  rw [chainP] at h1
  rw [formP] at h2
  refine ⟨by simpa using h1, ?_⟩
  rw [whoAt]
  exact form_ne (by simpa using h2)
theorem keys10 : ¬ (64 < (keysN 10).length) := by rw [keysN_len]; omega
theorem Made.less {w : Wish} {l : List Proxy} (M : Made w l) {k : Nat} (h : k < l.length) : whyOf (keysN 10) w (lessL l k) w.rlo w.slo = (4, if k < l.length - 1 then (k : Int) else -1) := by
  have hl := less_len h
  have hll := M.len
  have hrg := M.rg
  have hsp := M.sp
  have e0 : ¬ (64 < (keysN 10).length ∨ wishOk w = false ∨ 4 < (lessL l k).length ∨ firstIx (keyP (keysN 10)) (keysN 10).length ≠ none) := by
    rintro (h' | h' | h' | h')
    · exact keys10 h'
    · rw [M.wok] at h'; cases h'
    · omega
    · exact h' (keysN_ok 10)
  have hf : okTo (formP (lessL l k)) (lessL l k).length := fun i hi => by
    rw [formP, less_get h]
    split
    · exact M.forms i (by omega)
    · exact M.forms (i + 1) (by omega)
  have hp := M.hop h
  rw [whyOf, if_neg e0, firstIx_none hf, oneOr, if_neg (by omega), if_neg (by omega)]
  have hok : ∀ i, i < k → chainP w.holder (lessL l k) i = false := fun i hi => by
    rw [chainP, less_get h, if_pos hi, less_who h (by omega)]
    exact M.chain i (by omega)
  by_cases hkl : k < l.length - 1
  · have hbad : chainP w.holder (lessL l k) k = true := by
      have h2 := (M.hop (k := k + 1) (by omega)).1
      rw [chainP, less_get h, if_neg (by omega), less_who h (Nat.le_refl _), h2, ← hp.1]
      simpa using fun e => hp.2 e.symm
    rw [firstIx_some hok hbad (by omega), oneOr_some, if_pos hkl]
  · have hw : w.signer ≠ whoAt w.holder (lessL l k) (lessL l k).length := by
      rw [hl, show l.length - 1 = k by omega, less_who h (Nat.le_refl _), M.who, show l.length = k + 1 by omega, ← hp.1]
      exact fun e => hp.2 e.symm
    rw [firstIx_none (fun i hi => hok i (by omega)), oneOr_none, if_pos hw, if_neg hkl]
theorem Made.twice {w : Wish} {l : List Proxy} (M : Made w l) {k : Nat} (h : k < l.length) : whyOf (keysN 10) w (twiceL l k) w.rlo w.slo = if 4 < l.length + 1 then (1, -1) else (4, (k : Int) + 1) := by
  have hl := twice_len h
  have hrg := M.rg
  have hsp := M.sp
  by_cases h4 : 4 < l.length + 1
  · rw [if_pos h4, whyOf, if_pos (.inr (.inr (.inl (by omega))))]
  rw [if_neg h4]
  have e0 : ¬ (64 < (keysN 10).length ∨ wishOk w = false ∨ 4 < (twiceL l k).length ∨ firstIx (keyP (keysN 10)) (keysN 10).length ≠ none) := by
    rintro (h' | h' | h' | h')
    · exact keys10 h'
    · rw [M.wok] at h'; cases h'
    · omega
    · exact h' (keysN_ok 10)
  have hf : okTo (formP (twiceL l k)) (twiceL l k).length := fun i hi => by
    rw [formP, twice_get h]
    split
    · exact M.forms i (by omega)
    · exact M.forms (i - 1) (by omega)
  have hp := M.hop h
  rw [whyOf, if_neg e0, firstIx_none hf, oneOr, if_neg (by omega), if_neg (by omega)]
  have hok : ∀ i, i < k + 1 → chainP w.holder (twiceL l k) i = false := fun i hi => by
    rw [chainP, twice_get h, if_pos (by omega), twice_who h (by omega)]
    exact M.chain i (by omega)
  have hbad : chainP w.holder (twiceL l k) (k + 1) = true := by
    rw [chainP, twice_get h, if_neg (by omega), twice_who h (Nat.le_refl _), Nat.add_sub_cancel]
    simpa using hp.2
  rw [firstIx_some hok hbad (by omega), oneOr_some]
  rfl

/-! ### Seals and keys -/
theorem Made.whySig {w : Wish} {l : List Proxy} (M : Made w l) (s : Bytes) : validOf (keysN 10) { w with sig := s } l w.rlo w.slo = (s == w.sig) := by
  have hrg := M.rg
  have hsp := M.sp
  by_cases e : s = w.sig
  · subst e
    have : validOf (keysN 10) w l w.rlo w.slo = true := by rw [M.valid]; exact decide_eq_true (by omega)
    simpa using this
  · have e1 : (s == w.sig) = false := by simpa using e
    rw [e1]
    cases hv : validOf (keysN 10) { w with sig := s } l w.rlo w.slo with
    | false => rfl
    | true =>
      have g := (good_of hv).sl
      rw [sealBadW, Bool.or_eq_false_iff] at g
      have g2 : s = sealOf ((keysN 10).getD w.signer.toNat []) (wishText { w with sig := s }) := by simpa using g.2
      rw [show wishText { w with sig := s } = wishText w from rfl, keysN_at M.sg.1 (by have := M.sg.2; omega), ← M.sl] at g2
      exact absurd g2 e
theorem keyB_ne {q z : Int} (h1 : 0 ≤ q) (h2 : q ≤ 9) (h3 : 10 ≤ z) (h4 : z < 256) : keyB q ≠ keyB z := by
  intro e
  have := congrArg (fun l : Bytes => l.getD 0 0) e
  simp only [keyB, List.getD_eq_getElem?_getD, List.replicate_succ, List.getElem?_cons_zero, Option.getD_some] at this
  have := congrArg UInt8.toNat this
  rw [UInt8.toNat_ofNat', UInt8.toNat_ofNat'] at this
  omega
theorem coll_keys {a b c : Bytes} (h : a ≠ b) (he : sealOf a c = sealOf b c) : collB (hashed a c) (hashed b c) = true := by
  have h1 : ¬ (1 :: a ++ leafOf c) = (1 :: b ++ leafOf c) := fun e => h (List.append_cancel_right (List.cons.inj e).2)
  have h2 : collQ (1 :: a ++ leafOf c) (1 :: b ++ leafOf c) = true := collQ_t h1 he
  simp only [collB, hashed, List.any_cons, List.any_nil, h2, Bool.or_true, Bool.true_or]
theorem keysN_set_len (q : Nat) (z : Bytes) : ((keysN 10).set q z).length = 10 := by rw [List.length_set, keysN_len]
theorem keys_set_at {q : Int} {z : Bytes} (h0 : 0 ≤ q) (h : q ≤ 9) : ((keysN 10).set q.toNat z).getD q.toNat [] = z := by
  rw [List.getD_eq_getElem?_getD, List.getElem?_set]
  have : q.toNat < (keysN 10).length := by rw [keysN_len]; omega
  simp [this]
theorem Made.otherS {w : Wish} {l : List Proxy} (M : Made w l) {z : Int} (h1 : 10 ≤ z) (h2 : z < 256) {nu t : Int} (hv : validOf ((keysN 10).set w.signer.toNat (keyB z)) w l nu t = true) : collB (hashed (keyB w.signer) (wishText w)) (hashed (keyB z) (wishText w)) = true := by
  have g := (good_of hv).sl
  rw [sealBadW, Bool.or_eq_false_iff, keys_set_at M.sg.1 M.sg.2] at g
  have g2 : w.sig = sealOf (keyB z) (wishText w) := by simpa using g.2
  exact coll_keys (keyB_ne M.sg.1 M.sg.2 h1 h2) (by rw [← g2, ← M.sl])
theorem Made.pseal {w : Wish} {l : List Proxy} (M : Made w l) {k : Nat} (hk : k < l.length) : (l[k]'hk).sig = sealOf (keyB (l[k]'hk).frm) (proxyText (l[k]'hk)) := by
  have h := M.seals k hk
  have h9 := M.nine _ (List.getElem_mem hk)
  rw [sealP, getD_get _ hk, sealBadP, Bool.or_eq_false_iff, keysN_at h9.1 (by omega)] at h
  simpa using h.2
theorem Made.otherP {w : Wish} {l : List Proxy} (M : Made w l) {k : Nat} (hk : k < l.length) {z : Int} (h1 : 10 ≤ z) (h2 : z < 256) {nu t : Int} (hv : validOf ((keysN 10).set (l[k]'hk).frm.toNat (keyB z)) w l nu t = true) : collB (hashed (keyB (l[k]'hk).frm) (proxyText (l[k]'hk))) (hashed (keyB z) (proxyText (l[k]'hk))) = true := by
  have h9 := M.nine _ (List.getElem_mem hk)
  have g := (good_of hv).seals k hk
  rw [sealP, getD_get _ hk, sealBadP, Bool.or_eq_false_iff, keys_set_at h9.1 h9.2.1] at g
  have g2 : (l[k]'hk).sig = sealOf (keyB z) (proxyText (l[k]'hk)) := by simpa using g.2
  exact coll_keys (keyB_ne h9.1 h9.2.1 h1 h2) (by rw [← g2, ← M.pseal hk])
theorem take_keys_len {q : Int} (h : q ≤ 9) : (((keysN 10).take q.toNat).drop 0).length = q.toNat := by rw [List.drop_zero, List.length_take, keysN_len]; omega
theorem Made.fewS {w : Wish} {l : List Proxy} (M : Made w l) {nu t : Int} : validOf (((keysN 10).take w.signer.toNat).drop 0) w l nu t = false := by
  cases hv : validOf (((keysN 10).take w.signer.toNat).drop 0) w l nu t with
  | false => rfl
  | true =>
    have g := (good_of hv).sl
    rw [sealBadW, Bool.or_eq_false_iff, take_keys_len M.sg.2] at g
    have := M.sg.1
    simp at g
    omega
theorem Made.fewP {w : Wish} {l : List Proxy} (M : Made w l) {k : Nat} (hk : k < l.length) {nu t : Int} : validOf (((keysN 10).take (l[k]'hk).frm.toNat).drop 0) w l nu t = false := by
  have h9 := M.nine _ (List.getElem_mem hk)
  cases hv : validOf (((keysN 10).take (l[k]'hk).frm.toNat).drop 0) w l nu t with
  | false => rfl
  | true =>
    have g := (good_of hv).seals k hk
    rw [sealP, getD_get _ hk, sealBadP, Bool.or_eq_false_iff, take_keys_len h9.2.1] at g
    simp at g
    omega
theorem keysN_el {q : Nat} (h : q < (keysN 10).length) : (keysN 10)[q]'h = keyB (q : Int) := by
  have h' : q < 10 := by rwa [keysN_len] at h
  rw [← getD_get [] h, keysN_get h']
theorem hashed_le (k c : Bytes) (hk : k.length ≤ 1000) (hc : c.length ≤ 1000) (i : Nat) (h : i < (hashed k c).length) : ((hashed k c)[i]'h).length ≤ 1000000000000 := by
  have h2 : i < 2 := h
  have hl := leafOf_len c
  match i, h2 with
  | 0, _ => simp only [hashed, List.getElem_cons_zero, List.length_cons]; omega
  | 1, _ => simp only [hashed, List.getElem_cons_succ, List.getElem_cons_zero, List.cons_append, List.length_cons, List.length_append]; omega
theorem Made.other1 {w : Wish} {l : List Proxy} (M : Made w l) {z : Int} (h1 : 10 ≤ z) (h2 : z < 256) {nu t : Int} {hA : w.signer.toNat < (keysN 10).length} {hB : w.signer.toNat < ((keysN 10).set w.signer.toNat (keyB z)).length} (hv : validOf ((keysN 10).set w.signer.toNat (keyB z)) w l nu t = true) :
    collB (hashed ((keysN 10)[w.signer.toNat]'hA) (wishText w)) (hashed (((keysN 10).set w.signer.toNat (keyB z))[w.signer.toNat]'hB) (wishText w)) = true := by
  have := M.otherS h1 h2 hv
  rw [keysN_el, List.getElem_set_self, Int.toNat_of_nonneg M.sg.1]
  exact this
theorem Made.other2 {w : Wish} {l : List Proxy} (M : Made w l) {k : Nat} (hk : k < l.length) {z : Int} (h1 : 10 ≤ z) (h2 : z < 256) {nu t : Int} {hA : (l[k]'hk).frm.toNat < (keysN 10).length} {hB : (l[k]'hk).frm.toNat < ((keysN 10).set (l[k]'hk).frm.toNat (keyB z)).length} (hv : validOf ((keysN 10).set (l[k]'hk).frm.toNat (keyB z)) w l nu t = true) :
    collB (hashed ((keysN 10)[(l[k]'hk).frm.toNat]'hA) (proxyText (l[k]'hk))) (hashed (((keysN 10).set (l[k]'hk).frm.toNat (keyB z))[(l[k]'hk).frm.toNat]'hB) (proxyText (l[k]'hk))) = true := by
  have := M.otherP hk h1 h2 hv
  rw [keysN_el, List.getElem_set_self, Int.toNat_of_nonneg (M.nine _ (List.getElem_mem hk)).1]
  exact this
end Go.TL
end
section
/- Texts of wishes are read back, and what is read is written alike; account codes. Plain laws. No program is named here. -/
set_option linter.unusedVariables false
set_option linter.unusedSimpArgs false
namespace Go.TL
def okI (n : Int) : Prop := -4611686018427387903 ≤ n ∧ n ≤ 4611686018427387903
theorem snocInd {α : Type} {motive : List α → Prop} (nil : motive []) (snoc : ∀ l a, motive l → motive (l ++ [a])) (l : List α) : motive l := by
  have h : ∀ m : List α, motive m.reverse := fun m => by
    induction m with
    | nil => exact nil
    | cons a m ih => rw [List.reverse_cons]; exact snoc _ _ ih
  have := h l.reverse
  rwa [List.reverse_reverse] at this
theorem rdv_of : ∀ {k z : Nat} (r : Bytes), z < 128 ^ k → 0 < k → ∃ c, rdv k (vintF k z ++ r) = some (z, (vintF k z).length - 1, c) ∧ (c.toNat = 0 → z = 0) ∧ 1 ≤ (vintF k z).length
  | 0, _, _, _, h => absurd h (by omega)
  | k + 1, z, r, hz, _ => by
    by_cases h : z < 128
    · rw [vintF_end h]
      have e : (UInt8.ofNat z).toNat = z := by rw [UInt8.toNat_ofNat']; omega
      refine ⟨UInt8.ofNat z, ?_, fun h0 => by rw [e] at h0; exact h0, by simp⟩
      simp only [List.cons_append, List.nil_append, rdv, e, if_neg (show ¬ 128 ≤ z by omega), List.length_cons, List.length_nil]
    · obtain ⟨j, hj, hj0⟩ := pow128_pos hz (by omega)
      obtain ⟨c, h1, h2, h3⟩ := rdv_of (k := k) r (pow128 hz) (by omega)
      rw [vintF_go (by omega)]
      have e : (UInt8.ofNat (z % 128 + 128)).toNat = z % 128 + 128 := by rw [UInt8.toNat_ofNat']; omega
      refine ⟨c, ?_, fun h0 => absurd (h2 h0) (by omega), by simp⟩
      simp only [List.cons_append, rdv, e, if_pos (show 128 ≤ z % 128 + 128 by omega), h1, Option.map_some, List.length_cons]
      congr 2
      · omega
      · congr 1
        omega
theorem putInt_vint {n : Int} (h : okI n) : putInt n = vintF 9 (zig n) ∧ zig n < 9223372036854775808 := by
  have := zig_lt h.1 h.2
  exact ⟨by rw [putInt, if_pos (show -4611686018427387903 ≤ n ∧ n ≤ 4611686018427387903 from h), vint9 (by omega)], by omega⟩
theorem unInt_put {n : Int} (h : okI n) (a r : Bytes) : unInt (a ++ (putInt n ++ r)) a.length = (n, ((a.length + (putInt n).length : Nat) : Int), 0) := by
  obtain ⟨hp, hz⟩ := putInt_vint h
  obtain ⟨c, h1, h2, h3⟩ := rdv_of (k := 9) r (z := zig n) (by omega) (by omega)
  have hd : rdv 9 ((a ++ (putInt n ++ r)).drop (a.length : Int).toNat) = some (zig n, (vintF 9 (zig n)).length - 1, c) := by
    rw [Int.toNat_natCast, List.drop_left, hp]; exact h1
  rw [unInt_ok (by omega) (by simp only [List.length_append]; omega) hd, unz_zig, hp]
  · congr 2
    omega
  · rintro (⟨h0, h4⟩ | h0)
    · rw [h2 h0, vintF_end (by omega)] at h4
      simp at h4
    · rw [unz_zig] at h0
      have := h.1
      omega
theorem rdN_put {n : Int} (h : okI n) (a r : Bytes) : rdN (a ++ (putInt n ++ r)) a.length = some (n, a.length + (putInt n).length) := by
  rw [rdN, unInt_put h, if_pos rfl]
  rfl
theorem rdNs_put : ∀ {l : List Int} (a r : Bytes), (∀ n ∈ l, okI n) → rdNs (a ++ (puts l ++ r)) l.length a.length = some (l, a.length + (puts l).length) := by
  intro l
  induction l using snocInd with
  | nil => intro a r _; simp [rdNs, puts]
  | snoc l n ih =>
    intro a r h
    have e1 : a ++ (puts (l ++ [n]) ++ r) = a ++ (puts l ++ (putInt n ++ r)) := by rw [puts_snoc]; simp
    rw [List.length_append, List.length_cons, List.length_nil, rdNs, e1, ih a (putInt n ++ r) (fun m hm => h m (by simp [hm])), Option.bind_some]
    have h2 := rdN_put (h n (by simp)) (a ++ puts l) r
    rw [List.length_append] at h2
    rw [show a ++ (puts l ++ (putInt n ++ r)) = (a ++ puts l) ++ (putInt n ++ r) by simp, h2, Option.bind_some, puts_snoc]
    simp [Nat.add_assoc]
theorem rdK_put {m : Int} (h : okI m) (a r : Bytes) : rdK (a ++ (putInt m ++ r)) a.length m = some (a.length + (putInt m).length) := by
  rw [rdK, rdN_put h, Option.bind_some, if_pos rfl]
theorem rdD_put (a r g : Bytes) (hg : g.length = 32) : rdD (a ++ (g ++ r)) a.length = some (g, a.length + 32) := by
  rw [rdD, if_pos (by simp only [List.length_append]; omega), List.take_append, List.take_of_length_le (by omega), Nat.add_sub_cancel_left, List.take_left' hg, List.drop_left]
theorem proxyOk_I {p : Proxy} (h : proxyOk p = true) : ∀ n ∈ [p.frm, p.to, p.rlo, p.rhi, p.slo, p.shi], okI n := by
  simp only [proxyOk, within, rangeOk, spellOk, Bool.and_eq_true, decide_eq_true_eq, bne_iff_ne] at h
  intro n hn
  simp only [List.mem_cons, List.not_mem_nil, or_false] at hn
  rcases hn with rfl | rfl | rfl | rfl | rfl | rfl <;> exact ⟨by omega, by omega⟩
theorem wishOk_I {w : Wish} (h : wishOk w = true) : ∀ n ∈ [w.signer, w.holder, w.rlo, w.rhi, w.carrier, w.serial, w.slo, w.shi], okI n := by
  simp only [wishOk, within, rangeOk, spellOk, Bool.and_eq_true, decide_eq_true_eq] at h
  intro n hn
  simp only [List.mem_cons, List.not_mem_nil, or_false] at hn
  rcases hn with rfl | rfl | rfl | rfl | rfl | rfl | rfl | rfl <;> exact ⟨by omega, by omega⟩
theorem puts_cons (n : Int) (l : List Int) : puts (n :: l) = putInt n ++ puts l := by simp [puts]
theorem rdP_put {p : Proxy} (h : proxyOk p = true) (hs : p.sig.length = 32) (a r : Bytes) : rdP (a ++ ((proxyText p ++ p.sig) ++ r)) a.length = some (p, a.length + (proxyText p ++ p.sig).length) := by
  have e : proxyText p = putInt 2 ++ puts [p.frm, p.to, p.rlo, p.rhi, p.slo, p.shi] := puts_cons _ _
  have h1 := rdK_put (m := 2) ⟨by decide, by decide⟩ a (puts [p.frm, p.to, p.rlo, p.rhi, p.slo, p.shi] ++ (p.sig ++ r))
  have h2 := rdNs_put (l := [p.frm, p.to, p.rlo, p.rhi, p.slo, p.shi]) (a ++ putInt 2) (p.sig ++ r) (proxyOk_I h)
  have h3 := rdD_put (a ++ putInt 2 ++ puts [p.frm, p.to, p.rlo, p.rhi, p.slo, p.shi]) r p.sig hs
  have hx : a ++ ((proxyText p ++ p.sig) ++ r) = a ++ (putInt 2 ++ (puts [p.frm, p.to, p.rlo, p.rhi, p.slo, p.shi] ++ (p.sig ++ r))) := by rw [e]; simp
  have hy : (a ++ putInt 2) ++ (puts [p.frm, p.to, p.rlo, p.rhi, p.slo, p.shi] ++ (p.sig ++ r)) = a ++ (putInt 2 ++ (puts [p.frm, p.to, p.rlo, p.rhi, p.slo, p.shi] ++ (p.sig ++ r))) := by simp
  have hz : (a ++ putInt 2 ++ puts [p.frm, p.to, p.rlo, p.rhi, p.slo, p.shi]) ++ (p.sig ++ r) = a ++ (putInt 2 ++ (puts [p.frm, p.to, p.rlo, p.rhi, p.slo, p.shi] ++ (p.sig ++ r))) := by simp
  rw [hy] at h2
  rw [hz] at h3
  rw [List.length_append] at h2
  rw [List.length_append, List.length_append] at h3
  rw [hx, rdP, h1, Option.bind_some, show (6 : Nat) = [p.frm, p.to, p.rlo, p.rhi, p.slo, p.shi].length from rfl, h2, Option.bind_some, h3, Option.bind_some, e]
  simp only [List.length_append, hs, Option.some.injEq, Prod.mk.injEq]
  exact ⟨rfl, by omega⟩
theorem rdW_put {w : Wish} (h : wishOk w = true) (hs : w.sig.length = 32) (a : Bytes) : rdW (a ++ (wishText w ++ w.sig)) a.length = some (w, a.length + (wishText w ++ w.sig).length) := by
  have e : wishText w = putInt 1 ++ puts [w.signer, w.holder, w.rlo, w.rhi, w.carrier, w.serial, w.slo, w.shi] := puts_cons _ _
  have h1 := rdK_put (m := 1) ⟨by decide, by decide⟩ a (puts [w.signer, w.holder, w.rlo, w.rhi, w.carrier, w.serial, w.slo, w.shi] ++ (w.sig ++ []))
  have h2 := rdNs_put (l := [w.signer, w.holder, w.rlo, w.rhi, w.carrier, w.serial, w.slo, w.shi]) (a ++ putInt 1) (w.sig ++ []) (wishOk_I h)
  have h3 := rdD_put (a ++ putInt 1 ++ puts [w.signer, w.holder, w.rlo, w.rhi, w.carrier, w.serial, w.slo, w.shi]) [] w.sig hs
  have hx : a ++ (wishText w ++ w.sig) = a ++ (putInt 1 ++ (puts [w.signer, w.holder, w.rlo, w.rhi, w.carrier, w.serial, w.slo, w.shi] ++ (w.sig ++ []))) := by rw [e]; simp
  have hy : (a ++ putInt 1) ++ (puts [w.signer, w.holder, w.rlo, w.rhi, w.carrier, w.serial, w.slo, w.shi] ++ (w.sig ++ [])) = a ++ (putInt 1 ++ (puts [w.signer, w.holder, w.rlo, w.rhi, w.carrier, w.serial, w.slo, w.shi] ++ (w.sig ++ []))) := by simp
  have hz : (a ++ putInt 1 ++ puts [w.signer, w.holder, w.rlo, w.rhi, w.carrier, w.serial, w.slo, w.shi]) ++ (w.sig ++ []) = a ++ (putInt 1 ++ (puts [w.signer, w.holder, w.rlo, w.rhi, w.carrier, w.serial, w.slo, w.shi] ++ (w.sig ++ []))) := by simp
  rw [hy] at h2
  rw [hz] at h3
  rw [List.length_append] at h2
  rw [List.length_append, List.length_append] at h3
  rw [hx, rdW, h1, Option.bind_some, show (8 : Nat) = [w.signer, w.holder, w.rlo, w.rhi, w.carrier, w.serial, w.slo, w.shi].length from rfl, h2, Option.bind_some, h3, Option.bind_some, e]
  simp only [List.length_append, hs, Option.some.injEq, Prod.mk.injEq]
  exact ⟨rfl, by omega⟩
def sealsT (l : List Proxy) : Bytes := l.flatMap fun p => proxyText p ++ p.sig
theorem rdPs_put : ∀ {l : List Proxy} (a r : Bytes), (∀ p ∈ l, proxyOk p = true ∧ p.sig.length = 32) → rdPs (a ++ (sealsT l ++ r)) l.length a.length = some (l, a.length + (sealsT l).length) := by
  intro l
  induction l using snocInd with
  | nil => intro a r _; simp [rdPs, sealsT]
  | snoc l p ih =>
    intro a r h
    have es : sealsT (l ++ [p]) = sealsT l ++ (proxyText p ++ p.sig) := by simp [sealsT]
    have e1 : a ++ (sealsT (l ++ [p]) ++ r) = a ++ (sealsT l ++ ((proxyText p ++ p.sig) ++ r)) := by rw [es]; simp
    rw [List.length_append, List.length_cons, List.length_nil, rdPs, e1, ih a _ (fun q hq => h q (by simp [hq])), Option.bind_some]
    have h2 := rdP_put (h p (by simp)).1 (h p (by simp)).2 (a ++ sealsT l) r
    rw [List.length_append] at h2
    rw [show a ++ (sealsT l ++ ((proxyText p ++ p.sig) ++ r)) = (a ++ sealsT l) ++ ((proxyText p ++ p.sig) ++ r) by simp, h2, Option.bind_some, es]
    simp [Nat.add_assoc]
theorem encode_ok {w : Wish} {l : List Proxy} (h : (encode w l).2 = 0) : formedOk w l = true ∧ w.sig.length = 32 ∧ l.all (fun p => p.sig.length == 32) = true ∧ (encode w l).1 = encText w l := by
  unfold encode at h ⊢
  split at h
  · rename_i hc
    rw [if_pos hc]
    exact ⟨hc.1, hc.2.1, hc.2.2, rfl⟩
  · cases h
theorem formedOk_parts {w : Wish} {l : List Proxy} (h : formedOk w l = true) : wishOk w = true ∧ l.length ≤ 4 ∧ ∀ p ∈ l, proxyOk p = true := by
  simp only [formedOk, Bool.and_eq_true, decide_eq_true_eq, List.all_eq_true] at h
  exact ⟨h.1, h.2.1, h.2.2⟩
theorem decode_enc {w : Wish} {l : List Proxy} (hf : formedOk w l = true) (hw : w.sig.length = 32) (hl : l.all (fun p => p.sig.length == 32) = true) : decodeOf (encText w l) = (w, l, 0) := by
  obtain ⟨f1, f2, f3⟩ := formedOk_parts hf
  have hl' : ∀ p ∈ l, p.sig.length = 32 := fun p hp => by simpa using List.all_eq_true.1 hl p hp
  refine decodeOf_some ?_
  have e0 : encText w l = [] ++ (putInt (l.length : Int) ++ (sealsT l ++ (wishText w ++ w.sig))) := by simp [encText, sealsT, puts]
  have h1 := rdN_put (n := (l.length : Int)) ⟨by omega, by omega⟩ [] (sealsT l ++ (wishText w ++ w.sig))
  have h2 := rdPs_put (l := l) (putInt (l.length : Int)) (wishText w ++ w.sig) (fun p hp => ⟨f3 p hp, hl' p hp⟩)
  have h3 := rdW_put f1 hw (putInt (l.length : Int) ++ sealsT l)
  rw [← e0] at h1
  rw [show putInt (l.length : Int) ++ (sealsT l ++ (wishText w ++ w.sig)) = encText w l by rw [e0]; simp] at h2
  rw [show (putInt (l.length : Int) ++ sealsT l) ++ (wishText w ++ w.sig) = encText w l by rw [e0]; simp] at h3
  rw [List.length_append] at h3
  have hlen : (encText w l).length = (putInt (l.length : Int)).length + (sealsT l).length + (wishText w ++ w.sig).length := by rw [e0]; simp only [List.length_append, List.length_nil]; omega
  have hwi : within (l.length : Int) 0 4 = true := by simp [within]; omega
  simp only [List.length_nil, Nat.zero_add] at h1
  rw [decO, rdHead, h1, Option.bind_some]
  dsimp only
  rw [if_pos hwi, Int.toNat_natCast, h2, Option.bind_some]
  dsimp only
  rw [h3, Option.bind_some]
  dsimp only
  rw [if_neg]
  rintro (h | h)
  · omega
  · rw [hf] at h; cases h
/-! ### What is read is written alike -/
theorem rdN_text {s : Bytes} {a : Nat} {x : Int × Nat} (h : rdN s a = some x) (ha : a ≤ s.length) : s.take x.2 = s.take a ++ putInt x.1 ∧ x.2 ≤ s.length := by
  unfold rdN at h
  split at h
  · rename_i h0
    cases hr : rdv 9 (s.drop (a : Int).toNat) with
    | none => rw [unInt_none (by omega) (by omega) hr] at h0; simp at h0
    | some y =>
      obtain ⟨z, i, b⟩ := y
      by_cases hb : (b.toNat = 0 ∧ 0 < i) ∨ unz z < -4611686018427387903
      · rw [unInt_bad (by omega) (by omega) hr hb] at h0; simp at h0
      · rw [unInt_ok (by omega) (by omega) hr hb] at h
        simp only [Option.some.injEq] at h
        subst h
        dsimp only
        have hlt := (rdv_bound hr).2.2.1
        rw [List.length_drop, Int.toNat_natCast] at hlt
        rw [Int.toNat_natCast] at hr
        have hp := (putInt_unz hr (fun h => hb (.inr h))).2 (fun h => hb (.inl h))
        rw [hp, show ((a : Int) + (i : Int) + 1).toNat = a + (i + 1) by omega]
        exact ⟨List.take_add, by omega⟩
  · cases h
theorem rdNs_text {s : Bytes} : ∀ {k a : Nat} {x : List Int × Nat}, rdNs s k a = some x → a ≤ s.length → s.take x.2 = s.take a ++ puts x.1 ∧ x.2 ≤ s.length ∧ x.1.length = k
  | 0, a, x, h, ha => by
    simp only [rdNs, Option.some.injEq] at h
    subst h
    exact ⟨by simp [puts], ha, rfl⟩
  | k + 1, a, x, h, ha => by
    simp only [rdNs, Option.bind_eq_some_iff] at h
    obtain ⟨y, hy, z, hz, h⟩ := h
    simp only [Option.some.injEq] at h
    subst h
    obtain ⟨i1, i2, i3⟩ := rdNs_text hy ha
    obtain ⟨j1, j2⟩ := rdN_text hz i2
    exact ⟨by rw [j1, i1, puts_snoc, List.append_assoc], j2, by rw [List.length_append, i3]; rfl⟩
theorem rdK_text {s : Bytes} {a b : Nat} {m : Int} (h : rdK s a m = some b) (ha : a ≤ s.length) : s.take b = s.take a ++ putInt m ∧ b ≤ s.length := by
  simp only [rdK, Option.bind_eq_some_iff] at h
  obtain ⟨x, hx, h⟩ := h
  split at h
  · rename_i e
    simp only [Option.some.injEq] at h
    subst h
    obtain ⟨h1, h2⟩ := rdN_text hx ha
    exact ⟨by rw [h1, e], h2⟩
  · cases h
theorem rdD_text {s : Bytes} {a : Nat} {x : Bytes × Nat} (h : rdD s a = some x) : s.take x.2 = s.take a ++ x.1 ∧ x.2 ≤ s.length ∧ x.1.length = 32 := by
  unfold rdD at h
  split at h
  · rename_i hl
    simp only [Option.some.injEq] at h
    subst h
    dsimp only
    refine ⟨?_, hl, by rw [List.length_drop, List.length_take]; omega⟩
    have := List.take_append_drop a (s.take (a + 32))
    rw [List.take_take, Nat.min_eq_left (by omega)] at this
    exact this.symm
  · cases h
theorem six {l : List Int} (h : l.length = 6) : [l.getD 0 0, l.getD 1 0, l.getD 2 0, l.getD 3 0, l.getD 4 0, l.getD 5 0] = l := by
  match l, h with
  | [a, b, c, d, e, f], _ => rfl
theorem eight {l : List Int} (h : l.length = 8) : [l.getD 0 0, l.getD 1 0, l.getD 2 0, l.getD 3 0, l.getD 4 0, l.getD 5 0, l.getD 6 0, l.getD 7 0] = l := by
  match l, h with
  | [a, b, c, d, e, f, g, i], _ => rfl
theorem rdP_text {s : Bytes} {a : Nat} {x : Proxy × Nat} (h : rdP s a = some x) (ha : a ≤ s.length) : s.take x.2 = s.take a ++ (proxyText x.1 ++ x.1.sig) ∧ x.2 ≤ s.length ∧ x.1.sig.length = 32 := by
  simp only [rdP, Option.bind_eq_some_iff] at h
  obtain ⟨b, hb, y, hy, z, hz, h⟩ := h
  simp only [Option.some.injEq] at h
  subst h
  obtain ⟨i1, i2⟩ := rdK_text hb ha
  obtain ⟨j1, j2, j3⟩ := rdNs_text hy i2
  obtain ⟨k1, k2, k3⟩ := rdD_text hz
  refine ⟨?_, k2, k3⟩
  have e : proxyText (proxyOf y.1 z.1) = putInt 2 ++ puts y.1 := by
    have : proxyText (proxyOf y.1 z.1) = puts (2 :: [y.1.getD 0 0, y.1.getD 1 0, y.1.getD 2 0, y.1.getD 3 0, y.1.getD 4 0, y.1.getD 5 0]) := rfl
    rw [this, puts_cons, six j3]
  rw [k1, j1, i1, e]
  simp [proxyOf]
theorem rdW_text {s : Bytes} {a : Nat} {x : Wish × Nat} (h : rdW s a = some x) (ha : a ≤ s.length) : s.take x.2 = s.take a ++ (wishText x.1 ++ x.1.sig) ∧ x.2 ≤ s.length ∧ x.1.sig.length = 32 := by
  simp only [rdW, Option.bind_eq_some_iff] at h
  obtain ⟨b, hb, y, hy, z, hz, h⟩ := h
  simp only [Option.some.injEq] at h
  subst h
  obtain ⟨i1, i2⟩ := rdK_text hb ha
  obtain ⟨j1, j2, j3⟩ := rdNs_text hy i2
  obtain ⟨k1, k2, k3⟩ := rdD_text hz
  refine ⟨?_, k2, k3⟩
  have e : wishText (wishOf y.1 z.1) = putInt 1 ++ puts y.1 := by
    have : wishText (wishOf y.1 z.1) = puts (1 :: [y.1.getD 0 0, y.1.getD 1 0, y.1.getD 2 0, y.1.getD 3 0, y.1.getD 4 0, y.1.getD 5 0, y.1.getD 6 0, y.1.getD 7 0]) := rfl
    rw [this, puts_cons, eight j3]
  rw [k1, j1, i1, e]
  simp [wishOf]
theorem rdPs_text {s : Bytes} : ∀ {k a : Nat} {x : List Proxy × Nat}, rdPs s k a = some x → a ≤ s.length → s.take x.2 = s.take a ++ sealsT x.1 ∧ x.2 ≤ s.length ∧ x.1.length = k ∧ ∀ p ∈ x.1, p.sig.length = 32
  | 0, a, x, h, ha => by
    simp only [rdPs, Option.some.injEq] at h
    subst h
    exact ⟨by simp [sealsT], ha, rfl, fun p hp => by simp at hp⟩
  | k + 1, a, x, h, ha => by
    simp only [rdPs, Option.bind_eq_some_iff] at h
    obtain ⟨y, hy, z, hz, h⟩ := h
    simp only [Option.some.injEq] at h
    subst h
    obtain ⟨i1, i2, i3, i4⟩ := rdPs_text hy ha
    obtain ⟨j1, j2, j3⟩ := rdP_text hz i2
    refine ⟨by rw [j1, i1]; simp [sealsT], j2, by rw [List.length_append, i3]; rfl, fun p hp => ?_⟩
    rw [List.mem_append, List.mem_singleton] at hp
    rcases hp with hp | rfl
    · exact i4 p hp
    · exact j3
theorem decode_text {s : Bytes} (h : (decodeOf s).2.2 = 0) : encode (decodeOf s).1 (decodeOf s).2.1 = (s, 0) ∧ formedOk (decodeOf s).1 (decodeOf s).2.1 = true := by
  cases hd : decO s with
  | none => rw [decodeOf_none hd] at h; cases h
  | some x =>
    obtain ⟨w, l⟩ := x
    rw [decodeOf_some hd]
    dsimp only
    simp only [decO, Option.bind_eq_some_iff] at hd
    obtain ⟨⟨l', c⟩, hh, ⟨w', e⟩, hw, hd⟩ := hd
    split at hd
    · cases hd
    rename_i hn
    simp only [Option.some.injEq, Prod.mk.injEq] at hd
    obtain ⟨rfl, rfl⟩ := hd
    simp only [rdHead, Option.bind_eq_some_iff] at hh
    obtain ⟨⟨m, a⟩, hm, hh⟩ := hh
    split at hh
    · rename_i hwi
      obtain ⟨i1, i2⟩ := rdN_text hm (Nat.zero_le _)
      obtain ⟨j1, j2, j3, j4⟩ := rdPs_text hh i2
      obtain ⟨k1, k2, k3⟩ := rdW_text hw j2
      dsimp only at *
      have hf : formedOk w' l' = true := by
        cases hb : formedOk w' l' with
        | true => rfl
        | false => exact absurd (.inr hb) hn
      have he : s.length ≤ e := Nat.le_of_not_lt fun h => hn (.inl h)
      have hm0 : m = (l'.length : Int) := by
        simp only [within, Bool.and_eq_true, decide_eq_true_eq] at hwi
        omega
      have ht : s = encText w' l' := by
        rw [List.take_of_length_le he] at k1
        rw [k1, j1, i1, hm0]
        simp [encText, sealsT, puts]
      refine ⟨?_, hf⟩
      rw [encode, if_pos ⟨hf, k3, List.all_eq_true.2 fun p hp => by simpa using j4 p hp⟩, ← ht]
    · cases hh
theorem decode_bad {s : Bytes} (h : (decodeOf s).2.2 ≠ 0) : decodeOf s = (wish0, [], 150) := by
  cases hd : decO s with
  | none => exact decodeOf_none hd
  | some x => rw [decodeOf_some hd] at h; exact absurd rfl h
theorem Made.enc {w : Wish} {l : List Proxy} (M : Made w l) : encode w l = (encText w l, 0) ∧ decodeOf (encText w l) = (w, l, 0) := by
  have h : l.all (fun p => p.sig.length == 32) = true := List.all_eq_true.2 fun p hp => by simpa using M.psig p hp
  exact ⟨by rw [encode, if_pos ⟨M.formed, M.sig, h⟩], decode_enc M.formed M.sig h⟩
theorem enc_len {w : Wish} {l : List Proxy} (M : Made w l) : 0 < (encText w l).length ∧ (encText w l).length ≤ 1000 := by
  have h1 := puts_length [(l.length : Int)]
  have h2 := wishText_len w
  have h3 := seals_len (l := l) (List.all_eq_true.2 fun p hp => by simpa using M.psig p hp)
  have h4 := M.len
  have h5 := M.sig
  have h6 : (puts [(l.length : Int)]) ≠ [] := puts_ne (by omega) (by omega)
  have h7 := List.length_pos_iff.2 h6
  simp only [List.length_cons, List.length_nil] at h1
  simp only [encText, List.length_append]
  omega

/-! ### Account codes -/
def codeOf (a n m : Int) : Bytes := hexOf (sealOf (keyB a) (puts [3, n, m]))
theorem account_at {a n m : Int} (h1 : 0 ≤ n) (h2 : n < 100000000) (h3 : 0 ≤ m) (h4 : m < 1000001) : account (keyB a) n m = (codeOf a n m, 0) := by
  rw [account, if_pos ⟨keyB_len _, by simp [within]; omega, by simp [within]; omega⟩]; rfl
theorem codeOf_len (a n m : Int) : (codeOf a n m).length = 16 := by rw [codeOf, hexOf, hexLen, List.length_take, sealOf_len]; rfl
theorem checks_at {a n m : Int} (h1 : 0 ≤ n) (h2 : n < 100000000) (h3 : 0 ≤ m) (h4 : m < 1000001) (c : Bytes) : checks (keyB a) n m c = (c == codeOf a n m) := by
  rw [checks, account_at h1 h2 h3 h4]
  simp only [beq_self_eq_true, Bool.true_and]
  exact Bool.beq_comm
theorem hexCh_inj {a b : Nat} (ha : a < 16) (hb : b < 16) (h : hexCh a = hexCh b) : a = b := by
  have := congrArg UInt8.toNat h
  unfold hexCh at this
  split at this <;> split at this <;> rw [UInt8.toNat_ofNat', UInt8.toNat_ofNat'] at this <;> omega
theorem hexByte_inj {a b : UInt8} (h : hexByte a = hexByte b) : a = b := by
  simp only [hexByte, List.cons.injEq, and_true] at h
  have h1 := a.toNat_lt
  have h2 := b.toNat_lt
  have e1 := hexCh_inj (by omega) (by omega) h.1
  have e2 := hexCh_inj (by omega) (by omega) h.2
  exact UInt8.toNat_inj.1 (by omega)
theorem hexs_inj : ∀ {s t : Bytes}, s.flatMap hexByte = t.flatMap hexByte → s = t
  | [], [], _ => rfl
  | [], b :: t, h => by simp [hexByte] at h
  | a :: s, [], h => by simp [hexByte] at h
  | a :: s, b :: t, h => by
    rw [List.flatMap_cons, List.flatMap_cons] at h
    have h' := List.append_inj h rfl
    rw [hexByte_inj h'.1, hexs_inj h'.2]
theorem puts_inj {l m : List Int} (hl : l.length = m.length) (h1 : ∀ n ∈ l, okI n) (h2 : ∀ n ∈ m, okI n) (h : puts l = puts m) : l = m := by
  have e1 := rdNs_put [] [] h1
  have e2 := rdNs_put [] [] h2
  rw [h, hl, e2] at e1
  simp only [Option.some.injEq, Prod.mk.injEq] at e1
  exact e1.1.symm
theorem acc_alike {a b n0 m0 n1 m1 : Int} (h1 : 0 ≤ n0) (h2 : n0 < 100000000) (h3 : 0 ≤ m0) (h4 : m0 < 1000001) (k1 : 0 ≤ n1) (k2 : n1 < 100000000) (k3 : 0 ≤ m1) (k4 : m1 < 1000001)
    (hc : checks (keyB b) n1 m1 (codeOf a n0 m0) = true) (hne : ¬ (keyB a = keyB b ∧ n0 = n1 ∧ m0 = m1)) : alikeB (hashed (keyB a) (puts [3, n0, m0])) (hashed (keyB b) (puts [3, n1, m1])) = true := by
  rw [checks_at k1 k2 k3 k4, beq_iff_eq] at hc
  have h8 : (sealOf (keyB a) (puts [3, n0, m0])).take 8 = (sealOf (keyB b) (puts [3, n1, m1])).take 8 := hexs_inj hc
  by_cases e : (1 :: keyB a ++ leafOf (puts [3, n0, m0])) = (1 :: keyB b ++ leafOf (puts [3, n1, m1]))
  · have e2 := List.append_inj (List.cons.inj e).2 (by rw [keyB_len, keyB_len])
    have e3 : ¬ (0 :: puts [3, n0, m0] : Bytes) = 0 :: puts [3, n1, m1] := fun e4 => by
      have e5 := puts_inj (l := [3, n0, m0]) (m := [3, n1, m1]) rfl (fun n hn => by
        simp only [List.mem_cons, List.not_mem_nil, or_false] at hn
        rcases hn with rfl | rfl | rfl <;> exact ⟨by omega, by omega⟩) (fun n hn => by
        simp only [List.mem_cons, List.not_mem_nil, or_false] at hn
        rcases hn with rfl | rfl | rfl <;> exact ⟨by omega, by omega⟩) (List.cons.inj e4).2
      simp only [List.cons.injEq, and_true, true_and] at e5
      exact hne ⟨e2.1, e5.1, e5.2⟩
    have q : alikeQ (0 :: puts [3, n0, m0]) (0 :: puts [3, n1, m1]) = true := alikeQ_t e3 (congrArg (List.take 8) e2.2)
    simp only [alikeB, hashed, List.any_cons, q, Bool.true_or]
  · have q : alikeQ (1 :: keyB a ++ leafOf (puts [3, n0, m0])) (1 :: keyB b ++ leafOf (puts [3, n1, m1])) = true := alikeQ_t e h8
    simp only [alikeB, hashed, List.any_cons, List.any_nil, q, Bool.or_true, Bool.true_or]
theorem has_ownrow {G L : List Asn} {b t sz m : Nat} {cs : List Value} (hl : cs.length = m * sz) (hm : m ≤ 9223372036854775807) (hh : Has G L (own b cs.toArray t)) : Has G L (row t sz (some ⟨b, 0, none⟩) m m cs) := fun Z S w hG hL => own_row hl hm (hh Z S w hG hL)
section
variable {P : Program} {r : Option Nat} {n : Nat} {ds : List Deferred} {S0 : Nat → Prop} {w0 : World} {G L0 : List Asn} {f0 : Env} {Q : Exit → Act → World → Prop} {ops : Array Oper} {m : Nat} {wrl : List (Nat × Nat)} {prl R : List Nat}
theorem DG.rdp {j : Nat} {F : Nat → (Nat → Gh) → Value} {C : Nat → (Nat → Gh) → Asn} {o : Oper} {v : Value} (hj : ops.toList[j]? = some o) (hR : R.contains j = false) (hg : o.guard = none)
    (ho : ∀ ρ g (M : List Asn), (∀ i, prL prl j i = true → M[i]? = some (C i ρ)) → Reads P G (M ++ L0) o (ev n (mixG wrl prl F f0 j ρ g)) v)
    (h : DG P r n ds S0 w0 G Q ops m wrl prl R L0 f0 (j + 1) (updF F j (fun _ => v)) (updF C j (fun _ => emp))) : DG P r n ds S0 w0 G Q ops m wrl prl R L0 f0 j F C :=
  DG.putp (by rw [← Array.getElem?_toList]; exact hj) hR v (fun ρ g M Q' hM h' => TO.read hg (ho ρ g M hM) h') h
end
end Go.TL
end
section
/- Regions that draw their order, in which operations (append, store) turn pieces that the region has made. No program is named here. -/
set_option linter.unusedVariables false
set_option linter.unusedSimpArgs false
namespace Go.TL
section
variable {γ : Type}
def coL (co : Nat → Option Nat) (listed : Array Bool) (p : Nat) : Bool := match co p with
  | none => false
  | some j => isL listed j
def enY (co : Nat → Option Nat) (sp : List (Spec γ)) (listed : Array Bool) (ρ : Nat → γ) (p : Nat) : Asn := bif (isL listed p && !(coL co listed p)) then (sp.getD p dspec).c ρ else emp
def mixLy (co : Nat → Option Nat) (pr : Nat → Nat → Bool) (sp : List (Spec γ)) (L0 : List Asn) (m j : Nat) (ρ : Nat → γ) (X : Nat → Asn) : List Asn :=
  (List.range m).map (fun p => bif (pr j p && (co p).isNone) then (sp.getD p dspec).c ρ else X p) ++ L0
def lLy (co : Nat → Option Nat) (sp : List (Spec γ)) (L0 : List Asn) (m : Nat) (listed : Array Bool) (ρ : Nat → γ) : List Asn := (List.range m).map (enY co sp listed ρ) ++ L0
def fullLy (co : Nat → Option Nat) (sp : List (Spec γ)) (L0 : List Asn) (m : Nat) (ρ : Nat → γ) : List Asn := (List.range m).map (fun p => bif (co p).isNone then (sp.getD p dspec).c ρ else emp) ++ L0
theorem enY_new {co : Nat → Option Nat} {sp : List (Spec γ)} {listed : Array Bool} {ρ : Nat → γ} {p : Nat} (h : isL listed p = true) (hc : ∀ q, co p = some q → isL listed q = false) : enY co sp listed ρ p = (sp.getD p dspec).c ρ := by
  have : coL co listed p = false := by
    unfold coL
    cases e : co p with
    | none => rfl
    | some q => exact hc q e
  simp only [enY, h, this, Bool.not_false, Bool.and_true, _root_.cond_true]
theorem enY_dead {co : Nat → Option Nat} {sp : List (Spec γ)} {listed : Array Bool} {ρ : Nat → γ} {p q : Nat} (h : co p = some q) (hq : isL listed q = true) : enY co sp listed ρ p = emp := by
  simp only [enY, coL, h, hq, Bool.not_true, Bool.and_false, _root_.cond_false]
theorem enY_same {co : Nat → Option Nat} {sp : List (Spec γ)} {listed listed' : Array Bool} {ρ ρ' : Nat → γ} {p : Nat} (h : isL listed' p = isL listed p) (hc : ∀ q, co p = some q → isL listed' q = isL listed q) (hs : isL listed p = true → (sp.getD p dspec).c ρ' = (sp.getD p dspec).c ρ) : enY co sp listed' ρ' p = enY co sp listed ρ p := by
  have e : coL co listed' p = coL co listed p := by
    unfold coL
    cases e : co p with
    | none => rfl
    | some q => exact hc q e
  unfold enY
  rw [h, e]
  cases hb : isL listed p with
  | false => simp only [Bool.false_and, _root_.cond_false]
  | true => rw [hs hb]
theorem lLy_set {co : Nat → Option Nat} {sp : List (Spec γ)} {L0 : List Asn} {m : Nat} {listed : Array Bool} {ρ ρ' : Nat → γ} {j : Nat} (hj : j < m) (hjs : j < listed.size) (hnl : isL listed j = false) (hnc : ∀ i, co i ≠ some j) (hcons : ∀ q, co j = some q → isL listed q = false)
    (hsame : ∀ p, p ≠ j → isL listed p = true → (sp.getD p dspec).c ρ' = (sp.getD p dspec).c ρ) :
    (lLy co sp L0 m listed ρ).set j ((sp.getD j dspec).c ρ') = lLy co sp L0 m (listed.setIfInBounds j true) ρ' := by
  have hlj : isL (listed.setIfInBounds j true) j = true := by simp [isL, Array.getD_eq_getD_getElem?, hjs]
  have hl : ∀ p, p ≠ j → isL (listed.setIfInBounds j true) p = isL listed p := fun p e => by simp [isL, Array.getD_eq_getD_getElem?, Array.getElem?_setIfInBounds_ne (fun h => e h.symm)]
  unfold lLy
  rw [List.set_append_left _ _ (by simpa using hj)]
  congr 1
  apply List.ext_getElem?
  intro p
  by_cases hp : p < m
  · by_cases e : p = j
    · subst e
      rw [List.getElem?_set]
      simp only [List.length_map, List.length_range, hp, if_true, List.getElem?_map, List.getElem?_range hp, Option.map_some]
      rw [enY_new hlj (fun q hq => by rw [hl q (fun e => by subst e; exact hnc _ hq)]; exact hcons q hq)]
    · rw [List.getElem?_set_ne (fun h => e h.symm)]
      simp only [List.getElem?_map, List.getElem?_range hp, Option.map_some]
      rw [enY_same (hl p e) (fun q hq => hl q (fun eq => hnc p (eq ▸ hq))) (hsame p e)]
  · simp [hp]
end
section
variable {P : Program} {r : Option Nat} {n : Nat} {ds : List Deferred} {S0 : Nat → Prop} {w0 : World} {G L0 : List Asn} {f0 : Env} {Q : Exit → Act → World → Prop} {ops : Array Oper} {γ : Type} {m : Nat} {wr : Nat → Option Nat} {pr : Nat → Nat → Bool} {R : List Nat} {co : Nat → Option Nat}
def ObPy (P : Program) (r : Option Nat) (n : Nat) (ds : List Deferred) (S0 : Nat → Prop) (w0 : World) (G : List Asn) (ops : Array Oper) (m : Nat) (wr : Nat → Option Nat) (pr : Nat → Nat → Bool) (co : Nat → Option Nat) (L0 : List Asn) (f0 : Env) (sp : List (Spec γ)) (j : Nat) (o : Oper) (s : Spec γ) : Prop :=
  ∀ (ρ : Nat → γ) (g : Env) (X : Nat → Asn) (Q' : Exit → Act → World → Prop), TO P r n ds S0 w0 G ops Q' [] (mixLy co pr sp L0 m j ρ X) (put (mixE wr pr sp f0 j ρ g) o.dst (s.v ρ)) → TO P r n ds S0 w0 G ops Q' [o] (mixLy co pr sp L0 m j ρ X) (mixE wr pr sp f0 j ρ g)
def ObRy (P : Program) (r : Option Nat) (n : Nat) (ds : List Deferred) (S0 : Nat → Prop) (w0 : World) (G : List Asn) (ops : Array Oper) (m : Nat) (wr : Nat → Option Nat) (pr : Nat → Nat → Bool) (co : Nat → Option Nat) (L0 : List Asn) (f0 : Env) (sp : List (Spec γ)) (j : Nat) (o : Oper) (s : Spec γ) : Prop :=
  ∀ (ρ : Nat → γ) (g : Env) (X : Nat → Asn) (Q' : Exit → Act → World → Prop), (∀ x, TO P r n ds S0 w0 G ops Q' [] (s.c (gupd ρ j x) :: mixLy co pr sp L0 m j ρ X) (put (mixE wr pr sp f0 j ρ g) o.dst (s.v (gupd ρ j x)))) → TO P r n ds S0 w0 G ops Q' [o] (mixLy co pr sp L0 m j ρ X) (mixE wr pr sp f0 j ρ g)
def ObTy (P : Program) (r : Option Nat) (n : Nat) (ds : List Deferred) (S0 : Nat → Prop) (w0 : World) (G : List Asn) (ops : Array Oper) (m : Nat) (wr : Nat → Option Nat) (pr : Nat → Nat → Bool) (co : Nat → Option Nat) (L0 : List Asn) (f0 : Env) (sp : List (Spec γ)) (i j : Nat) (o : Oper) (s : Spec γ) : Prop :=
  ∀ (ρ : Nat → γ) (g : Env) (X : Nat → Asn) (Q' : Exit → Act → World → Prop), X i = (sp.getD i dspec).c ρ → (∀ x, TO P r n ds S0 w0 G ops Q' [] (s.c (gupd ρ j x) :: mixLy co pr sp L0 m j ρ (fun p => bif Nat.beq p i then emp else X p)) (put (mixE wr pr sp f0 j ρ g) o.dst (s.v (gupd ρ j x)))) → TO P r n ds S0 w0 G ops Q' [o] (mixLy co pr sp L0 m j ρ X) (mixE wr pr sp f0 j ρ g)
structure Owedy (P : Program) (r : Option Nat) (n : Nat) (ds : List Deferred) (S0 : Nat → Prop) (w0 : World) (G : List Asn) (ops : Array Oper) (m : Nat) (wr : Nat → Option Nat) (pr : Nat → Nat → Bool) (co : Nat → Option Nat) (R : List Nat) (L0 : List Asn) (f0 : Env) (sp : List (Spec γ)) (j : Nat) (s : Spec γ) : Prop where
  ind : Ind pr R j s
  ob : ∃ o, ops[j]? = some o ∧ ((ObPy P r n ds S0 w0 G ops m wr pr co L0 f0 sp j o s ∧ j ∉ R ∧ (∀ ρ, s.c ρ = emp) ∧ ∀ i, co i ≠ some j) ∨ (ObRy P r n ds S0 w0 G ops m wr pr co L0 f0 sp j o s ∧ j ∈ R ∧ ∀ i, co i ≠ some j) ∨ (∃ i, co i = some j ∧ (∀ i', co i' = some j → i' = i) ∧ ObTy P r n ds S0 w0 G ops m wr pr co L0 f0 sp i j o s ∧ j ∈ R))
def DRy (P : Program) (r : Option Nat) (n : Nat) (ds : List Deferred) (S0 : Nat → Prop) (w0 : World) (G : List Asn) (Q : Exit → Act → World → Prop) (ops : Array Oper) (m : Nat) (wr : Nat → Option Nat) (pr : Nat → Nat → Bool) (co : Nat → Option Nat) (R : List Nat) (L0 : List Asn) (f0 : Env) (j : Nat) (sp : List (Spec γ)) : Prop :=
  sp.length = j ∧ ∃ sp', sp.length + sp'.length = m ∧ (∀ k, k < sp'.length → Owedy P r n ds S0 w0 G ops m wr pr co R L0 f0 (sp ++ sp'.take k) (sp.length + k) (sp'.getD k dspec)) ∧
    ∀ ρ, TO P r n ds S0 w0 G ops Q (ops.toList.drop m) (fullLy co (sp ++ sp') L0 m ρ) (fullE wr (sp ++ sp') f0 ρ)
theorem DRy.step {j : Nat} {sp : List (Spec γ)} (s : Spec γ) (hsp : sp.length = j) (ho : Owedy P r n ds S0 w0 G ops m wr pr co R L0 f0 sp j s) (h : DRy P r n ds S0 w0 G Q ops m wr pr co R L0 f0 (j + 1) (sp ++ [s])) : DRy P r n ds S0 w0 G Q ops m wr pr co R L0 f0 j sp := by
  obtain ⟨h1, sp', h2, h3, h4⟩ := h
  refine ⟨hsp, s :: sp', by simp at h2 ⊢; omega, fun k hk => ?_, fun ρ => by have := h4 ρ; simpa using this⟩
  cases k with
  | zero => simp only [List.take_zero, List.append_nil, Nat.add_zero, hsp]; exact ho
  | succ k =>
    have := h3 k (by simpa using hk)
    simp only [List.length_append, List.length_cons, List.length_nil] at this
    simp only [List.take_succ_cons]
    rw [show sp.length + (k + 1) = sp.length + (0 + 1) + k from by omega, show sp ++ s :: List.take k sp' = sp ++ [s] ++ List.take k sp' from by simp]
    simpa using this
theorem DRy.done {sp : List (Spec γ)} (hsp : sp.length = m) (h : ∀ ρ, TO P r n ds S0 w0 G ops Q (ops.toList.drop m) (fullLy co sp L0 m ρ) (fullE wr sp f0 ρ)) : DRy P r n ds S0 w0 G Q ops m wr pr co R L0 f0 m sp :=
  ⟨hsp, [], by simpa using hsp, fun k hk => by simp at hk, fun ρ => by simpa using h ρ⟩
theorem T.drawY (hmix : P.follows .mixedOrders = true) {id : Nat} (wrl : List (Nat × Nat)) (prl R : List Nat) (hok : drawOk ops.toList m wrl prl = true) (hco : ∀ i j, co i = some j → prOf prl j i = true) (hcm : ∀ i j, co i = some j → j < m)
    (h : DRy P r n ds S0 w0 G Q ops m (wrOf wrl) (prOf prl) co R L0 f0 0 ([] : List (Spec γ))) [Inhabited γ] : T P r n ds S0 w0 G Q (.region id ops true) L0 f0 := fun w hw => by
  have hd := DrawOk.of hok
  generalize wrOf wrl = wr at *
  generalize prOf prl = pr at *
  obtain ⟨_, sp, hlen, hob, hfin⟩ := h
  simp only [List.length_nil, Nat.zero_add, List.nil_append] at hlen hob hfin
  refine wpIn_region_any hmix ?_
  -- the invariant
  let Cl : Array Bool → Prop := fun listed => ∀ q, isL listed q = true → ∀ p, pr q p = true → isL listed p = true
  let Hd : Array Bool → Act → World → Prop := fun listed a w => (∀ k, m ≤ k → isL listed k = false) ∧ ∃ ρ, a = act n (lE wr sp f0 listed ρ) ds ∧ St S0 w0 G (lLy co sp L0 m listed ρ) w
  let Tl : Array Bool → Act → World → Prop := fun listed a w => ∃ k, m ≤ k ∧ k ≤ ops.size ∧ (∀ j, j < k → isL listed j = true) ∧ (∀ j, k ≤ j → isL listed j = false) ∧ wpL P r ops Q (ops.toList.drop k) a w
  have hready : ∀ (listed : Array Bool) (j : Nat), Cl listed → j ∈ Region.ready .any ops listed → ∀ p, pr j p = true → isL listed p = true := by
    intro listed j hcl hj p hp
    obtain ⟨_, _, o, ho, he⟩ := mem_ready' hj
    obtain ⟨_, e, hmem, hb, hor⟩ := hd.clos j o ho p hp
    rcases hor with rfl | hpr
    · exact he e hmem hb
    · exact hcl e.on (he e hmem hb) p hpr
  have toTl : ∀ (listed : Array Bool) (a : Act) (w : World), (∀ j, j < m → isL listed j = true) → Hd listed a w → Tl listed a w := by
    rintro listed a w hall ⟨hnot, ρ, rfl, hst⟩
    refine ⟨m, Nat.le_refl _, hd.hm, hall, hnot, ?_⟩
    have e1 : lE wr sp f0 listed ρ = fullE wr sp f0 ρ := by
      funext t
      simp only [lE, fullE]
      cases hw : wr t with
      | none => rfl
      | some p => simp only [hall p (hd.wrm t p hw).1, _root_.cond_true]
    have e2 : lLy co sp L0 m listed ρ = fullLy co sp L0 m ρ := by
      unfold lLy fullLy
      congr 1
      apply List.map_congr_left
      intro p hp
      have hpm : p < m := by simpa using hp
      cases hc : co p with
      | none => simp only [enY, coL, hc, hall p hpm, Option.isNone_none, Bool.not_false, Bool.and_true]
      | some q => simp only [enY, coL, hc, hall q (hcm p q hc), Option.isNone_some, Bool.not_true, Bool.and_false, _root_.cond_false]
    rw [e1]
    rw [e2] at hst
    exact hfin ρ w hst
  have main : ∀ (fuel : Nat) (listed : Array Bool) (a : Act) (w : World), listed.size = ops.size → listed.toList.countP (fun b => !b) ≤ fuel → Cl listed → (Hd listed a w ∨ Tl listed a w) → wpAnyIn (Wd r) 0 P .any ops Q fuel listed a w := by
    have hend : ∀ (listed : Array Bool) (a : Act) (w : World), listed.size = ops.size → Cl listed → (Hd listed a w ∨ Tl listed a w) → Region.ready .any ops listed = [] → Q .normal a w := by
      intro listed a w hsz hcl hI hr
      have hall : ∀ j, j < ops.size → isL listed j = true := by
        intro j
        induction j using Nat.strongRecOn with
        | _ j ih =>
          intro hj
          cases hb : isL listed j with
          | true => rfl
          | false =>
            exfalso
            have : j ∈ Region.ready .any ops listed := by
              simp only [Region.ready, List.mem_filter, List.mem_range, Bool.and_eq_true, Bool.not_eq_true', hj, true_and]
              refine ⟨?_, ?_⟩
              · have hj' : j < listed.size := by omega
                simp only [isL, Array.getD_eq_getD_getElem?, hj', Array.getElem?_eq_getElem, Option.getD_some] at hb ⊢
                exact hb
              · simp only [hj, Array.getElem?_eq_getElem, Option.map_some, Option.getD_some, Array.all_eq_true']
                intro e he
                cases hbe : Region.binds .any e with
                | false => rfl
                | true =>
                  have hlt := hd.back j ops[j] (by simp [hj]) e he hbe
                  have := ih e.on hlt (by omega)
                  simpa [isL] using this
            rw [hr] at this
            cases this
      have hT : Tl listed a w := hI.elim (fun h => toTl listed a w (fun j hj => hall j (Nat.lt_of_lt_of_le hj hd.hm)) h) (fun h => h)
      obtain ⟨k, hk1, hk2, _, hk4, hk5⟩ := hT
      have hk : k = ops.size := by
        rcases Nat.lt_or_ge k ops.size with h | h
        · have h1 := hk4 k (Nat.le_refl _)
          rw [hall k h] at h1
          cases h1
        · omega
      subst hk
      rw [List.drop_eq_nil_of_le (by simp)] at hk5
      exact hk5
    intro fuel
    induction fuel with
    | zero =>
      intro listed a w hsz hc hcl hI
      have hr : Region.ready .any ops listed = [] := by
        cases hr : Region.ready .any ops listed with
        | nil => rfl
        | cons x xs =>
          exfalso
          obtain ⟨h1, h2, _⟩ := mem_ready' (listed := listed) (j := x) (ops := ops) (by rw [hr]; simp)
          have hx : x < listed.size := by omega
          simp only [Array.getD_eq_getD_getElem?, hx, Array.getElem?_eq_getElem, Option.getD_some] at h2
          have : 0 < listed.toList.countP (fun b => !b) := List.countP_pos_iff.2 ⟨listed[x], by simp, by simp [h2]⟩
          omega
      exact ⟨hr, hend listed a w hsz hcl hI hr⟩
    | succ fuel ih =>
      intro listed a w hsz hc hcl hI
      refine ⟨hend listed a w hsz hcl hI, fun i hi => ?_⟩
      obtain ⟨hi1, hi2, o, ho, hedge⟩ := mem_ready' hi
      have his : i < listed.size := by omega
      have hnl : isL listed i = false := by
        simp only [isL, Array.getD_eq_getD_getElem?, his, Array.getElem?_eq_getElem, Option.getD_some] at hi2 ⊢
        exact hi2
      have hcount : (listed.setIfInBounds i true).toList.countP (fun b => !b) ≤ fuel := by
        have h2' : listed.toList[i]'(by simpa using his) = false := by
          simp only [Array.getD_eq_getD_getElem?, his, Array.getElem?_eq_getElem, Option.getD_some] at hi2
          simpa using hi2
        have := List.countP_set (p := fun b : Bool => !b) (l := listed.toList) (i := i) (a := true) (h := by simpa using his)
        simp only [h2', Bool.not_false, Bool.not_true, if_true] at this
        rw [Array.toList_setIfInBounds, this]
        simp only [Bool.false_eq_true, if_false]
        have hpos : 0 < listed.toList.countP (fun b => !b) := List.countP_pos_iff.2 ⟨listed.toList[i]'(by simpa using his), List.getElem_mem _, by simp [h2']⟩
        omega
      have hsz' : (listed.setIfInBounds i true).size = ops.size := by simpa using hsz
      have hlj : isL (listed.setIfInBounds i true) i = true := by simp [isL, Array.getD_eq_getD_getElem?, his]
      have hl : ∀ p, p ≠ i → isL (listed.setIfInBounds i true) p = isL listed p := fun p e => by simp [isL, Array.getD_eq_getD_getElem?, Array.getElem?_setIfInBounds_ne (fun h => e h.symm)]
      have hcl' : Cl (listed.setIfInBounds i true) := by
        intro q hq p hp
        by_cases ep : p = i
        · rw [ep]; exact hlj
        · rw [hl p ep]
          by_cases eq : q = i
          · subst eq; exact hready listed q hcl hi p hp
          · rw [hl q eq] at hq; exact hcl q hq p hp
      have next : ∀ a' w', (Hd (listed.setIfInBounds i true) a' w' ∨ Tl (listed.setIfInBounds i true) a' w') → wpAnyIn (Wd r) 0 P .any ops Q fuel (listed.setIfInBounds i true) a' w' := fun a' w' h => ih _ a' w' hsz' hcount hcl' h
      -- the tail's step
      have tailStep : Tl listed a w → wpOpIn (Wd r) 0 P ops Q i (wpAnyIn (Wd r) 0 P .any ops Q fuel (listed.setIfInBounds i true)) a w := by
        rintro ⟨k, hk1, hk2, hk3, hk4, hk5⟩
        have hik : i = k := by
          rcases Nat.lt_trichotomy i k with h | h | h
          · rw [hk3 i h] at hnl; cases hnl
          · exact h
          · have := hready listed i hcl hi k (hd.tail i (by omega) hi1 k h)
            rw [hk4 k (Nat.le_refl _)] at this
            cases this
        subst hik
        have hdrop : ops.toList.drop i = o :: ops.toList.drop (i + 1) := by
          rw [List.drop_eq_getElem_cons (by simpa using hi1)]
          congr 1
          have := Array.getElem?_eq_some_iff.1 ho
          obtain ⟨_, h⟩ := this
          simpa using h
        rw [hdrop] at hk5
        have nextT : ∀ a' w', wpL P r ops Q (ops.toList.drop (i + 1)) a' w' → wpAnyIn (Wd r) 0 P .any ops Q fuel (listed.setIfInBounds i true) a' w' := fun a' w' h =>
          next a' w' (.inr ⟨i + 1, by omega, by omega, fun j hj => by
            by_cases e : j = i
            · rw [e]; exact hlj
            · rw [hl j e]; exact hk3 j (by omega), fun j hj => by rw [hl j (by omega)]; exact hk4 j (by omega), h⟩)
        simp only [wpL] at hk5
        simp only [wpOpIn, ho]
        split
        · rename_i hw'
          rw [if_pos hw'] at hk5
          exact Oper.wpIn_mono nextT hk5
        · rename_i hw'
          rw [if_neg hw'] at hk5
          exact ⟨fun _ _ => trivial, nextT _ _ hk5⟩
      rcases hI with hH | hT
      · by_cases him : i < m
        · -- a step of the head
          obtain ⟨hnot, ρ, rfl, hst⟩ := hH
          have hlt : i < sp.length := by omega
          obtain ⟨hind, o', ho', hob'⟩ := hob i hlt
          rw [ho] at ho'
          cases ho'
          have hpl : ∀ p, pr i p = true → isL listed p = true := hready listed i hcl hi
          have hpi : ∀ p, pr i p = true → p < i := fun p hp => (hd.clos i o ho p hp).1
          have hgd : ∀ p, p < i → (sp.take i).getD p dspec = sp.getD p dspec := fun p hp => by simp [List.getD_eq_getElem?_getD, List.getElem?_take, hp]
          have eE : mixE wr pr (sp.take i) f0 i ρ (lE wr sp f0 listed ρ) = lE wr sp f0 listed ρ := by
            funext t
            simp only [mixE, lE]
            cases hw : wr t with
            | none => rfl
            | some p =>
              cases hp : pr i p with
              | true => simp only [hp, _root_.cond_true, hpl p hp, hgd p (hpi p hp)]
              | false =>
                cases hq : (pr p i || Nat.beq p i) with
                | false => simp only [hp, hq, _root_.cond_false]
                | true =>
                  have : isL listed p = false := by
                    rcases Bool.or_eq_true_iff.1 hq with h | h
                    · cases hb : isL listed p with
                      | false => rfl
                      | true => rw [hcl p hb i h] at hnl; cases hnl
                    · rw [Nat.eq_of_beq_eq_true h]; exact hnl
                  simp only [hp, hq, _root_.cond_false, _root_.cond_true, this]
          have eL : mixLy co pr (sp.take i) L0 m i ρ (enY co sp listed ρ) = lLy co sp L0 m listed ρ := by
            unfold mixLy lLy
            congr 1
            apply List.map_congr_left
            intro p _
            cases hp : pr i p with
            | true =>
              cases hc : co p with
              | none => simp only [Option.isNone_none, Bool.and_true, _root_.cond_true, enY, coL, hc, hpl p hp, hgd p (hpi p hp), Bool.not_false]
              | some q => simp only [Option.isNone_some, Bool.and_false, _root_.cond_false]
            | false => simp only [Bool.false_and, _root_.cond_false]
          have hcons : ∀ q, co i = some q → isL listed q = false := fun q hq => by
            cases hb : isL listed q with
            | false => rfl
            | true => rw [hcl q hb i (hco i q hq)] at hnl; cases hnl
          have hnot' : ∀ k, m ≤ k → isL (listed.setIfInBounds i true) k = false := fun k hk => by rw [hl k (by omega)]; exact hnot k hk
          -- what is done abides another ghost of i
          have hsame : ∀ p, p ≠ i → isL listed p = true → i ∈ R → ∀ x, (sp.getD p dspec).v (gupd ρ i x) = (sp.getD p dspec).v ρ ∧ (sp.getD p dspec).c (gupd ρ i x) = (sp.getD p dspec).c ρ := by
            intro p hp hpl' hiR x
            by_cases hps : p < sp.length
            · refine (hob p hps).ind i hiR (fun e => hp e.symm) ?_ ρ x
              cases hb : pr p i with
              | false => rfl
              | true => rw [hcl p hpl' i hb] at hnl; cases hnl
            · have : sp.getD p dspec = dspec := by simp [List.getD_eq_getElem?_getD, List.getElem?_eq_none (Nat.not_lt.1 hps)]
              rw [this]
              exact ⟨rfl, rfl⟩
          have conclude : TO P r n ds S0 w0 G ops (fun e a' w' => match e with | .normal => wpAnyIn (Wd r) 0 P .any ops Q fuel (listed.setIfInBounds i true) a' w' | e => Q e a' w') [o] (lLy co sp L0 m listed ρ) (lE wr sp f0 listed ρ) → wpOpIn (Wd r) 0 P ops Q i (wpAnyIn (Wd r) 0 P .any ops Q fuel (listed.setIfInBounds i true)) (act n (lE wr sp f0 listed ρ) ds) w := by
            intro hto
            have h1 := hto w hst
            simp only [wpL] at h1
            simp only [wpOpIn, ho]
            split
            · rename_i hw'
              rw [if_pos hw'] at h1
              refine ⟨fun _ _ => trivial, ?_⟩
              have h2 := h1.2
              generalize (Oper.semAt (Wd r).round (act n (lE wr sp f0 listed ρ) ds).eval o).run P w = z at h2 ⊢
              cases z with
              | ok y w' =>
                cases y <;> simp only [Oper.uponIn] at h2 ⊢ <;> first
                  | exact h2
                  | exact ⟨h2.1, CallsIn.mono h2.2 (fun e w'' he => by cases e <;> first | exact he | (obtain ⟨a0, w0', hq⟩ := he; exact ⟨a0, w0', hq⟩))⟩
                  | exact ⟨h2.1, RoundIn.mono h2.2 (fun e w'' he => by cases e <;> first | exact he | (obtain ⟨a0, w0', hq⟩ := he; exact ⟨a0, w0', hq⟩))⟩
              | halt y w' => cases y <;> simp only [Oper.uponIn] at h2 ⊢ <;> exact h2
            · rename_i hw'
              rw [if_neg hw'] at h1
              exact ⟨fun _ _ => trivial, h1⟩
          have hemp_i : (lLy co sp L0 m listed ρ)[i]? = some emp := by
            unfold lLy
            rw [List.getElem?_append_left (by simpa using him)]
            simp [him, enY, hnl]
          rcases hob' with ⟨hP, hnR, hemp, hnc⟩ | ⟨hR, hiR, hnc⟩ | ⟨i0, hi0, huniq, hT, hiR⟩
          · refine conclude ?_
            have := hP ρ (lE wr sp f0 listed ρ) (enY co sp listed ρ) (fun e a' w' => match e with | .normal => wpAnyIn (Wd r) 0 P .any ops Q fuel (listed.setIfInBounds i true) a' w' | e => Q e a' w')
            rw [eE, eL] at this
            refine this fun w' hst' => ?_
            show wpAnyIn (Wd r) 0 P .any ops Q fuel (listed.setIfInBounds i true) _ w'
            refine next _ _ (.inl ⟨hnot', ρ, ?_, ?_⟩)
            · rw [lE_set hd ho him his (fun _ _ _ => rfl)]
            · rw [← lLy_set (ρ' := ρ) him his hnl hnc hcons (fun _ _ _ => rfl), hemp]
              refine hst'.conv fun S w'' hs => ?_
              have hset : (lLy co sp L0 m listed ρ).set i emp = lLy co sp L0 m listed ρ := by
                apply List.ext_getElem?
                intro q
                by_cases e : q = i
                · subst e; rw [hemp_i, List.getElem?_set]; simp [(List.getElem?_eq_some_iff.1 hemp_i).1]
                · rw [List.getElem?_set_ne (fun h => e h.symm)]
              rw [hset]
              exact hs
          · refine conclude ?_
            have := hR ρ (lE wr sp f0 listed ρ) (enY co sp listed ρ) (fun e a' w' => match e with | .normal => wpAnyIn (Wd r) 0 P .any ops Q fuel (listed.setIfInBounds i true) a' w' | e => Q e a' w')
            rw [eE, eL] at this
            refine this fun x w' hst' => ?_
            show wpAnyIn (Wd r) 0 P .any ops Q fuel (listed.setIfInBounds i true) _ w'
            refine next _ _ (.inl ⟨hnot', gupd ρ i x, ?_, ?_⟩)
            · rw [lE_set hd ho him his (fun p hp hpl' => (hsame p hp hpl' hiR x).1)]
            · rw [← lLy_set him his hnl hnc hcons (fun p hp hpl' => (hsame p hp hpl' hiR x).2)]
              refine hst'.conv fun S w'' hs => ?_
              exact Seps.put_emp i hemp_i hs
          · refine conclude ?_
            have hpi0 : pr i i0 = true := hco i0 i hi0
            have hX : enY co sp listed ρ i0 = ((sp.take i).getD i0 dspec).c ρ := by
              rw [hgd i0 (hpi i0 hpi0)]
              simp only [enY, coL, hi0, hpl i0 hpi0, hnl, Bool.not_false, Bool.and_true, _root_.cond_true]
            have := hT ρ (lE wr sp f0 listed ρ) (enY co sp listed ρ) (fun e a' w' => match e with | .normal => wpAnyIn (Wd r) 0 P .any ops Q fuel (listed.setIfInBounds i true) a' w' | e => Q e a' w') hX
            rw [eE, eL] at this
            refine this fun x w' hst' => ?_
            show wpAnyIn (Wd r) 0 P .any ops Q fuel (listed.setIfInBounds i true) _ w'
            have hi0m : i0 < m := Nat.lt_trans (hpi i0 hpi0) him
            have hne0 : i0 ≠ i := Nat.ne_of_lt (hpi i0 hpi0)
            refine next _ _ (.inl ⟨hnot', gupd ρ i x, ?_, ?_⟩)
            · rw [lE_set hd ho him his (fun p hp hpl' => (hsame p hp hpl' hiR x).1)]
            · refine hst'.conv fun S w'' hs => ?_
              have e1 : mixLy co pr (sp.take i) L0 m i ρ (fun p => bif Nat.beq p i0 then emp else enY co sp listed ρ p) = (lLy co sp L0 m listed ρ).set i0 emp := by
                rw [← eL]
                unfold mixLy
                rw [List.set_append_left _ _ (by simpa using hi0m)]
                congr 1
                apply List.ext_getElem?
                intro p
                by_cases hp : p < m
                · by_cases e : p = i0
                  · subst e
                    simp [hp, hi0]
                  · rw [List.getElem?_set_ne (fun h => e h.symm)]
                    simp only [List.getElem?_map, List.getElem?_range hp, Option.map_some, beq_false e, _root_.cond_false]
                · simp [hp]
              rw [e1] at hs
              have h3 := Seps.put_emp (L := (lLy co sp L0 m listed ρ).set i0 emp) i (by rw [List.getElem?_set_ne hne0]; exact hemp_i) hs
              have e2 : ((lLy co sp L0 m listed ρ).set i0 emp).set i ((sp.getD i dspec).c (gupd ρ i x)) = lLy co sp L0 m (listed.setIfInBounds i true) (gupd ρ i x) := by
                unfold lLy
                rw [List.set_append_left _ _ (by simpa using hi0m), List.set_append_left _ _ (by simpa using him)]
                congr 1
                apply List.ext_getElem?
                intro p
                by_cases hp : p < m
                · by_cases e : p = i
                  · subst e
                    rw [List.getElem?_set]
                    simp only [List.length_set, List.length_map, List.length_range, hp, if_true, List.getElem?_map, List.getElem?_range hp, Option.map_some]
                    rw [enY_new hlj (fun q hq => by rw [hl q (fun e => by subst e; have := hpi _ (hco _ _ hq); omega)]; exact hcons q hq)]
                  · rw [List.getElem?_set_ne (fun h => e h.symm)]
                    by_cases e' : p = i0
                    · subst e'
                      rw [List.getElem?_set]
                      simp only [List.length_map, List.length_range, hp, if_true, List.getElem?_map, List.getElem?_range hp, Option.map_some]
                      rw [enY_dead hi0 hlj]
                    · rw [List.getElem?_set_ne (fun h => e' h.symm)]
                      simp only [List.getElem?_map, List.getElem?_range hp, Option.map_some]
                      rw [enY_same (hl p e) (fun q hq => hl q (fun eq => e' (huniq p (eq ▸ hq)))) (fun hb => (hsame p e hb hiR x).2)]
                · simp [hp]
              rw [e2] at h3
              exact h3
        · -- the tail begins
          refine tailStep (toTl listed a w (fun j hj => ?_) hH)
          exact hready listed i hcl hi j (hd.tail i (Nat.not_lt.1 him) hi1 j (by omega))
      · exact tailStep hT
  refine main ops.size _ _ _ (by simp) ?_ (fun q hq => by simp [isL, Array.getD_eq_getD_getElem?, Array.getElem?_replicate] at hq; split at hq <;> simp at hq) (.inl ⟨fun k _ => ?_, fun _ => default, ?_, ?_⟩)
  · exact Nat.le_trans List.countP_le_length (by simp)
  · simp only [isL, Array.getD_eq_getD_getElem?, Array.getElem?_replicate]; split <;> rfl
  · congr 1
    funext t
    simp only [lE]
    cases wr t with
    | none => rfl
    | some p =>
      have : isL (Array.replicate ops.size false) p = false := by simp only [isL, Array.getD_eq_getD_getElem?, Array.getElem?_replicate]; split <;> rfl
      simp only [this, _root_.cond_false]
  · refine (hw.drew).conv fun S w' hs => ?_
    have hall : ∀ p, isL (Array.replicate ops.size false) p = false := fun p => by simp only [isL, Array.getD_eq_getD_getElem?, Array.getElem?_replicate]; split <;> rfl
    have : lLy co sp L0 m (Array.replicate ops.size false) (fun _ => default) = (List.range m).map (fun _ => emp) ++ L0 := by
      unfold lLy
      congr 1
      apply List.map_congr_left
      intro p _
      simp only [enY, hall p, Bool.false_and, _root_.cond_false]
    rw [this]
    clear this
    refine Seps.app (S1 := fun _ => False) (S2 := S) (fun _ h => h.elim) (fun _ h => h) (fun _ h => h.elim) ?_ hs
    generalize List.range m = l
    induction l with
    | nil => trivial
    | cons q l ih => exact ⟨fun _ => False, fun _ => False, fun _ h => h, fun _ h => h, fun _ h => h.elim, trivial, ih⟩
end
section
variable {P : Program} {r : Option Nat} {n : Nat} {ds : List Deferred} {S0 : Nat → Prop} {w0 : World} {G L0 : List Asn} {f0 : Env} {Q : Exit → Act → World → Prop} {ops : Array Oper} {m : Nat} {wrl : List (Nat × Nat)} {prl R : List Nat} {col : List (Nat × Nat)}
def DY (P : Program) (r : Option Nat) (n : Nat) (ds : List Deferred) (S0 : Nat → Prop) (w0 : World) (G : List Asn) (Q : Exit → Act → World → Prop) (ops : Array Oper) (m : Nat) (wrl : List (Nat × Nat)) (prl R : List Nat) (col : List (Nat × Nat)) (L0 : List Asn) (f0 : Env) (j : Nat) (F : Nat → (Nat → Gh) → Value) (C : Nat → (Nat → Gh) → Asn) : Prop :=
  DrawOk ops m (wrOf wrl) (prOf prl) → DRy P r n ds S0 w0 G Q ops m (wrOf wrl) (prOf prl) (wrOf col) R L0 f0 j (gspec F C j)
theorem fmLen {α : Type} {e : α → List Value} {sz : Nat} (he : ∀ x, (e x).length = sz) : ∀ (xs : List α), (xs.flatMap e).length = xs.length * sz
  | [] => by simp
  | x :: xs => by rw [List.flatMap_cons, List.length_append, he, fmLen he xs, List.length_cons, Nat.add_mul]; omega
theorem take_over {α : Type} (c v : List α) {a s b : Nat} (hv : v.length = s) (h1 : a + s ≤ b) (h2 : b ≤ c.length) : (c.take a ++ v ++ c.drop (a + s)).take b = (c.take b).take a ++ v ++ (c.take b).drop (a + s) := by
  rw [List.take_append, List.take_of_length_le (by rw [List.length_append, List.length_take]; omega), List.take_take, Nat.min_eq_left (by omega)]
  congr 1
  rw [List.length_append, List.length_take, hv, Nat.min_eq_left (by omega), List.drop_take]
def cOk (m : Nat) (prl : List Nat) (col : List (Nat × Nat)) : Bool := col.all fun x => prOf prl x.2 x.1 && decide (x.2 < m)
theorem wrOf_mem {l : List (Nat × Nat)} {i j : Nat} (h : wrOf l i = some j) : (i, j) ∈ l := by
  simp only [wrOf, Option.map_eq_some_iff] at h
  obtain ⟨⟨a, b⟩, h1, rfl⟩ := h
  have h2 := List.find?_some h1
  simp only [beq_iff_eq] at h2
  subst h2
  exact List.mem_of_find?_eq_some h1
theorem T.drawy (hmix : P.follows .mixedOrders = true) {id : Nat} (m : Nat) (wrl : List (Nat × Nat)) (prl R : List Nat) (col : List (Nat × Nat)) (hok : (drawOk ops.toList m wrl prl && cOk m prl col) = true)
    (h : DY P r n ds S0 w0 G Q ops m wrl prl R col L0 f0 0 (fun _ _ => undef) (fun _ _ => emp)) : T P r n ds S0 w0 G Q (.region id ops true) L0 f0 := by
  rw [Bool.and_eq_true] at hok
  have hc : ∀ i j, wrOf col i = some j → prOf prl j i = true ∧ j < m := fun i j hij => by
    have := List.all_eq_true.1 hok.2 _ (wrOf_mem hij)
    rw [Bool.and_eq_true, decide_eq_true_eq] at this
    exact this
  exact T.drawY (γ := Gh) hmix wrl prl R hok.1 (fun i j h => (hc i j h).1) (fun i j h => (hc i j h).2) (h (DrawOk.of hok.1))
def ncB (col : List (Nat × Nat)) (j : Nat) : Bool := col.all fun x => !(Nat.beq x.2 j)
theorem ncB_of {j : Nat} (h : ncB col j = true) (i : Nat) : wrOf col i ≠ some j := fun e => by
  have := List.all_eq_true.1 h _ (wrOf_mem e)
  simp at this
theorem DY.put {j : Nat} {F : Nat → (Nat → Gh) → Value} {C : Nat → (Nat → Gh) → Asn} {o : Oper} (hj : ops[j]? = some o) (hR : (R.contains j || !(ncB col j)) = false) (v : Value)
    (ho : ∀ (ρ : Nat → Gh) (g : Env) (M : List Asn) (Q' : Exit → Act → World → Prop), TO P r n ds S0 w0 G ops Q' [] (M ++ L0) (put (mixG wrl prl F f0 j ρ g) o.dst v) → TO P r n ds S0 w0 G ops Q' [o] (M ++ L0) (mixG wrl prl F f0 j ρ g))
    (h : DY P r n ds S0 w0 G Q ops m wrl prl R col L0 f0 (j + 1) (updF F j (fun _ => v)) (updF C j (fun _ => emp))) : DY P r n ds S0 w0 G Q ops m wrl prl R col L0 f0 j F C := fun hd => by
  rw [Bool.or_eq_false_iff] at hR
  refine DRy.step ⟨fun _ => v, fun _ => emp⟩ (by simp [gspec]) ⟨fun i hi _ _ ρ x => ⟨rfl, rfl⟩, o, hj, .inl ⟨?_, by simpa using hR.1, fun _ => rfl, ncB_of (by simpa using hR.2)⟩⟩ ?_
  · intro ρ g X Q' h'
    rw [mixG_eq hd hj] at h' ⊢
    exact ho ρ g _ Q' h'
  · rw [← gspec_succ]
    exact h hd
theorem DY.new {j : Nat} {F : Nat → (Nat → Gh) → Value} {C : Nat → (Nat → Gh) → Asn} {o : Oper} (hj : ops[j]? = some o) (hR : (R.contains j && ncB col j) = true) (V : Gh → Value) (c : Gh → Asn)
    (ho : ∀ (ρ : Nat → Gh) (g : Env) (M : List Asn) (Q' : Exit → Act → World → Prop), (∀ x : Gh, TO P r n ds S0 w0 G ops Q' [] (c x :: (M ++ L0)) (TL.put (mixG wrl prl F f0 j ρ g) o.dst (V x))) → TO P r n ds S0 w0 G ops Q' [o] (M ++ L0) (mixG wrl prl F f0 j ρ g))
    (h : DY P r n ds S0 w0 G Q ops m wrl prl R col L0 f0 (j + 1) (updF F j (fun ρ => V (ρ j))) (updF C j (fun ρ => c (ρ j)))) : DY P r n ds S0 w0 G Q ops m wrl prl R col L0 f0 j F C := fun hd => by
  rw [Bool.and_eq_true] at hR
  have hg : ∀ (ρ : Nat → Gh) (x : Gh), gupd ρ j x j = x := fun ρ x => by simp [gupd]
  refine DRy.step ⟨fun ρ => V (ρ j), fun ρ => c (ρ j)⟩ (by simp [gspec]) ⟨fun i hi hne _ ρ x => ?_, o, hj, .inr (.inl ⟨?_, by simpa using hR.1, ncB_of hR.2⟩)⟩ ?_
  · have : gupd ρ i x j = ρ j := by simp only [gupd, beq_false (fun e => hne e.symm), _root_.cond_false]
    simp only [this, and_self]
  · intro ρ g X Q' h'
    rw [mixG_eq hd hj] at h' ⊢
    refine ho ρ g _ Q' fun x => ?_
    have := h' x
    simp only [hg] at this
    exact this
  · rw [← gspec_succ]
    exact h hd
/-- An operation that turns the piece that operation i has made. -/
def tuB (col : List (Nat × Nat)) (i j : Nat) : Bool := wrOf col i == some j && col.all fun x => !(Nat.beq x.2 j) || Nat.beq x.1 i
theorem DY.turn {j : Nat} {F : Nat → (Nat → Gh) → Value} {C : Nat → (Nat → Gh) → Asn} {o : Oper} (i : Nat) (hj : ops[j]? = some o) (hR : (R.contains j && tuB col i j && Nat.blt i j && Nat.blt i m) = true) (V : Gh → Value) (c : Gh → Asn)
    (ho : ∀ (ρ : Nat → Gh) (g : Env) (L : List Asn) (Q' : Exit → Act → World → Prop), (∀ X, Has G L0 X → Has G L X) → (∀ x : Gh, TO P r n ds S0 w0 G ops Q' [] (c x :: L) (TL.put (mixG wrl prl F f0 j ρ g) o.dst (V x))) → TO P r n ds S0 w0 G ops Q' [o] (C i ρ :: L) (mixG wrl prl F f0 j ρ g))
    (h : DY P r n ds S0 w0 G Q ops m wrl prl R col L0 f0 (j + 1) (updF F j (fun ρ => V (ρ j))) (updF C j (fun ρ => c (ρ j)))) : DY P r n ds S0 w0 G Q ops m wrl prl R col L0 f0 j F C := fun hd => by
  simp only [Bool.and_eq_true, tuB] at hR
  obtain ⟨⟨⟨hR, hc, hu⟩, hij⟩, him⟩ := hR
  have hij : i < j := Nat.le_of_ble_eq_true hij
  have him : i < m := Nat.le_of_ble_eq_true him
  have hc : wrOf col i = some j := by simpa using hc
  have hg : ∀ (ρ : Nat → Gh) (x : Gh), gupd ρ j x j = x := fun ρ x => by simp [gupd]
  refine DRy.step ⟨fun ρ => V (ρ j), fun ρ => c (ρ j)⟩ (by simp [gspec]) ⟨fun i hi hne _ ρ x => ?_, o, hj, .inr (.inr ⟨i, hc, fun i' h' => ?_, ?_, by simpa using hR⟩)⟩ ?_
  · have : gupd ρ i x j = ρ j := by simp only [gupd, beq_false (fun e => hne e.symm), _root_.cond_false]
    simp only [this, and_self]
  · have := List.all_eq_true.1 hu _ (wrOf_mem h')
    simpa using this
  · intro ρ g X Q' hX h'
    rw [mixG_eq hd hj] at h' ⊢
    rw [gspec_get F C hij] at hX
    have hget : (mixLy (wrOf col) (prOf prl) (gspec F C j) L0 m j ρ X)[i]? = some (C i ρ) := by
      unfold mixLy
      rw [List.getElem?_append_left (by simpa using him)]
      simp only [List.getElem?_map, List.getElem?_range him, Option.map_some, hc, Option.isNone_some, Bool.and_false, _root_.cond_false]
      rw [hX]
    have e4 : (mixLy (wrOf col) (prOf prl) (gspec F C j) L0 m j ρ X).set i emp = mixLy (wrOf col) (prOf prl) (gspec F C j) L0 m j ρ (fun p => bif Nat.beq p i then emp else X p) := by
      unfold mixLy
      rw [List.set_append_left _ _ (by simpa using him)]
      congr 1
      apply List.ext_getElem?
      intro q
      by_cases hq : q < m
      · by_cases e : q = i
        · subst e
          rw [List.getElem?_set]
          simp only [if_true, List.length_map, List.length_range, hq, List.getElem?_map, List.getElem?_range hq, Option.map_some]
          rw [hc]
          simp
        · rw [List.getElem?_set_ne (fun h => e h.symm)]
          simp only [List.getElem?_map, List.getElem?_range hq, Option.map_some, beq_false e, _root_.cond_false]
      · simp [hq]
    have h2 := ho ρ g ((mixLy (wrOf col) (prOf prl) (gspec F C j) L0 m j ρ X).set i emp) Q' (fun Y hY => by
      rw [e4]
      exact hY.appR) (fun x => by
      have := h' x
      simp only [hg] at this
      rw [e4]
      exact this)
    intro w hw
    refine h2 w (hw.conv fun S w hs => ?_)
    exact seps_take i hget (hs.add trivial)
  · rw [← gspec_succ]
    exact h hd
theorem DY.rd {j : Nat} {F : Nat → (Nat → Gh) → Value} {C : Nat → (Nat → Gh) → Asn} {o : Oper} {v : Value} (hj : ops.toList[j]? = some o) (hR : (R.contains j || !(ncB col j)) = false) (hg : o.guard = none)
    (ho : ∀ (ρ : Nat → Gh) (g : Env), Reads P G L0 o (ev n (mixG wrl prl F f0 j ρ g)) v)
    (h : DY P r n ds S0 w0 G Q ops m wrl prl R col L0 f0 (j + 1) (updF F j (fun _ => v)) (updF C j (fun _ => emp))) : DY P r n ds S0 w0 G Q ops m wrl prl R col L0 f0 j F C :=
  DY.put (by rw [← Array.getElem?_toList]; exact hj) hR v (fun ρ g M Q' h' => TO.read hg (ho ρ g).appR h') h
theorem DY.fn {j : Nat} {F : Nat → (Nat → Gh) → Value} {C : Nat → (Nat → Gh) → Asn} {d : Option Tmp} {ty : TypeId} {pos : String} {aft : Array Edge} {v : Value} {q : FuncId} {vs : List Value} {asx : Array Operand} {ats : Array TypeId} {G' : List Asn}
    (hj : ops.toList[j]? = some ⟨d, .call ⟨.value (.func q), asx, ats⟩, ty, pos, aft, none⟩) (hR : (R.contains j || !(ncB col j)) = false) (he : Enters P q) (hc : Cv P q vs.toArray G' v) (ha : ∀ ρ g, asx.toList.map (ev n (mixG wrl prl F f0 j ρ g)) = vs) (hG : ∀ X ∈ G', Has G L0 X)
    (h : DY P r n ds S0 w0 G Q ops m wrl prl R col L0 f0 (j + 1) (updF F j (fun _ => v)) (updF C j (fun _ => emp))) : DY P r n ds S0 w0 G Q ops m wrl prl R col L0 f0 j F C :=
  DY.put (by rw [← Array.getElem?_toList]; exact hj) hR v (fun ρ g M Q' h' => TO.fn he hc (ha ρ g) (fun X hX => (hG X hX).appR) h') h
theorem DY.buildS {j : Nat} {F : Nat → (Nat → Gh) → Value} {C : Nat → (Nat → Gh) → Asn} {d : Option Tmp} {ty : TypeId} {pos : String} {aft : Array Edge} {t e sz k : Nat} {ps : Array (Nat × Operand)} {z : Value} {cs : (Nat → Gh) → List Value} (hj : ops.toList[j]? = some ⟨d, .buildSlice t k ps, ty, pos, aft, none⟩) (hR : (R.contains j && ncB col j) = true)
    (ht : P.underlying t = some (.slice e)) (hs : ∀ w, (sizeOf e).run P w = .ok sz w) (hz : TyZero P e z) (hsmall : k * sz ≤ 16777216)
    (hfill : ∀ ρ g, fillM (fun i => some (i * sz, sz)) ((List.range (k * sz)).map (z.cells[· % z.cells.size]!)) 0 (ps.toList.map fun p => (p.1, ev n (mixG wrl prl F f0 j ρ g) p.2)) = some (cs ρ)) (hind : ∀ ρ x, cs (gupd ρ j x) = cs ρ) (hind2 : ∀ i ∈ R, prOf prl j i = false → ∀ ρ x, cs (gupd ρ i x) = cs ρ)
    (h : DY P r n ds S0 w0 G Q ops m wrl prl R col L0 f0 (j + 1) (updF F j (fun ρ => .slice (some ⟨(ρ j).2, 0, none⟩) k k)) (updF C j (fun ρ => own (ρ j).2 (cs ρ).toArray e))) : DY P r n ds S0 w0 G Q ops m wrl prl R col L0 f0 j F C := fun hd => by
  rw [Bool.and_eq_true] at hR
  have hj' := hj
  rw [Array.getElem?_toList] at hj'
  have hg : ∀ (ρ : Nat → Gh) (x : Gh), gupd ρ j x j = x := fun ρ x => by simp [gupd]
  refine DRy.step ⟨fun ρ => .slice (some ⟨(ρ j).2, 0, none⟩) k k, fun ρ => own (ρ j).2 (cs ρ).toArray e⟩ (by simp [gspec]) ⟨fun i hi hne hpi ρ x => ?_, _, hj', .inr (.inl ⟨?_, by simpa using hR.1, ncB_of hR.2⟩)⟩ ?_
  · have : gupd ρ i x j = ρ j := by simp only [gupd, beq_false (fun e => hne e.symm), _root_.cond_false]
    simp only [this, hind2 i hi hpi, and_self]
  · intro ρ g X Q' h'
    rw [mixG_eq hd hj'] at h' ⊢
    refine TO.buildS ht hs hz hsmall (hfill ρ g) fun b => ?_
    have := h' (none, b)
    simp only [hg, hind] at this
    exact this
  · rw [← gspec_succ]
    exact h hd
theorem DY.app {α : Type} {en : α → List Value} {j : Nat} {F : Nat → (Nat → Gh) → Value} {C : Nat → (Nat → Gh) → Asn} {d : Nat} {ty : TypeId} {pos : String} {aft : Array Edge} {t u e sz bytes k c' : Nat} {s x : Operand} {A' : Option Addr} {xs : List α} {cs : List Value} {q : Nat} (i : Nat) (hj : ops.toList[j]? = some ⟨some d, .call ⟨.builtin .append, #[s, x], #[t, u]⟩, ty, pos, aft, none⟩) (hR : (R.contains j && tuB col i j && Nat.blt i j && Nat.blt i m) = true)
    (hr : TyRow P e sz bytes) (ht : P.underlying t = some (.slice e)) (hu : (∃ e', P.underlying u = some (.slice e')) ∨ P.underlying u = some .string) (hC : C i = fun ρ => row e sz (ρ i).1 k (ρ i).2 cs)
    (hs : ∀ ρ g, ev n (mixG wrl prl F f0 j ρ g) s = .slice (ρ i).1 k (ρ i).2) (hx : ∀ ρ g, ev n (mixG wrl prl F f0 j ρ g) x = .slice A' q c') (hq : xs.length = q) (he : ∀ x, (en x).length = sz) (hS : Has G L0 (slc en sz A' xs)) (h1 : (xs.flatMap en).all (·.oneCell') = true) (hbytes : (k + q) * bytes ≤ 140737488355328)
    (h : DY P r n ds S0 w0 G Q ops m wrl prl R col L0 f0 (j + 1) (updF F j (fun ρ => .slice (ρ j).1 (k + q) (ρ j).2)) (updF C j (fun ρ => row e sz (ρ j).1 (k + q) (ρ j).2 (cs ++ xs.flatMap en)))) : DY P r n ds S0 w0 G Q ops m wrl prl R col L0 f0 j F C := by
  subst hq
  exact DY.turn i (by rw [← Array.getElem?_toList]; exact hj) hR (fun x => .slice x.1 (k + xs.length) x.2) (fun x => row e sz x.1 (k + xs.length) x.2 (cs ++ xs.flatMap en)) (fun ρ g L Q' hL h' => by
    rw [hC]
    exact TO.app hr ht hu (hs ρ g) (hx ρ g) (fun _ _ _ hw => Src.ofSlc he (Has.appR (M := [_]) (hL _ hS)) hw) (fmLen he xs) h1 hbytes fun A' cap' _ => h' (A', cap')) h
/-- The same, behind a literal slice. -/
theorem DY.appo {α : Type} {en : α → List Value} {j : Nat} {F : Nat → (Nat → Gh) → Value} {C : Nat → (Nat → Gh) → Asn} {d : Nat} {ty : TypeId} {pos : String} {aft : Array Edge} {t u e sz bytes k c' : Nat} {s x : Operand} {A' : Option Addr} {xs : List α} {cs : List Value} {q : Nat} (i : Nat) (hj : ops.toList[j]? = some ⟨some d, .call ⟨.builtin .append, #[s, x], #[t, u]⟩, ty, pos, aft, none⟩) (hR : (R.contains j && tuB col i j && Nat.blt i j && Nat.blt i m) = true)
    (hr : TyRow P e sz bytes) (ht : P.underlying t = some (.slice e)) (hu : (∃ e', P.underlying u = some (.slice e')) ∨ P.underlying u = some .string) (hC : C i = fun ρ => own (ρ i).2 cs.toArray e) (hl : cs.length = k * sz) (hk : k ≤ 9223372036854775807)
    (hs : ∀ ρ g, ev n (mixG wrl prl F f0 j ρ g) s = .slice (some ⟨(ρ i).2, 0, none⟩) k k) (hx : ∀ ρ g, ev n (mixG wrl prl F f0 j ρ g) x = .slice A' q c') (hq : xs.length = q) (he : ∀ x, (en x).length = sz) (hS : Has G L0 (slc en sz A' xs)) (h1 : (xs.flatMap en).all (·.oneCell') = true) (hbytes : (k + q) * bytes ≤ 140737488355328)
    (h : DY P r n ds S0 w0 G Q ops m wrl prl R col L0 f0 (j + 1) (updF F j (fun ρ => .slice (ρ j).1 (k + q) (ρ j).2)) (updF C j (fun ρ => row e sz (ρ j).1 (k + q) (ρ j).2 (cs ++ xs.flatMap en)))) : DY P r n ds S0 w0 G Q ops m wrl prl R col L0 f0 j F C := by
  subst hq
  exact DY.turn i (by rw [← Array.getElem?_toList]; exact hj) hR (fun x => .slice x.1 (k + xs.length) x.2) (fun x => row e sz x.1 (k + xs.length) x.2 (cs ++ xs.flatMap en)) (fun ρ g L Q' hL h' => by
    rw [hC]
    exact TO.torow0 sz k hl hk (TO.app hr ht hu (hs ρ g) (hx ρ g) (fun _ _ _ hw => Src.ofSlc he (Has.appR (M := [_]) (hL _ hS)) hw) (fmLen he xs) h1 hbytes fun A' cap' _ => h' (A', cap'))) h
theorem DY.done {F : Nat → (Nat → Gh) → Value} {C : Nat → (Nat → Gh) → Asn} {l : List Oper} (R' : List Nat) (hl : ops.toList.drop m = l) (hn : R'.Nodup) (hR : R'.all (fun j => Nat.blt j m && (wrOf col j).isNone) = true) (h : ∀ ρ : Nat → Gh, TO P r n ds S0 w0 G ops Q l (R'.map (fun j => C j ρ) ++ L0) (allG wrl F f0 ρ)) : DY P r n ds S0 w0 G Q ops m wrl prl R col L0 f0 m F C := fun hd => by
  refine DRy.done (by simp [gspec]) fun ρ => ?_
  have e : fullE (wrOf wrl) (gspec F C m) f0 ρ = allG wrl F f0 ρ := by
    funext t
    simp only [fullE, allG, wrL_eq]
    cases hw : wrOf wrl t with
    | none => rfl
    | some p => simp only; rw [gspec_get F C (hd.wrm t p hw).1]
  rw [e, hl]
  refine (h ρ).conv fun S w hs => ?_
  unfold fullLy at hs
  obtain ⟨S1, S2, h1, h2, h3, h4, h5⟩ := hs.split
  refine Seps.app h1 h2 h3 ?_ h5
  have := h4.sel hn
  have e2 : sel R' ((List.range m).map fun p => bif (wrOf col p).isNone then ((gspec F C m).getD p dspec).c ρ else emp) = R'.map fun j => C j ρ := by
    unfold sel
    apply List.map_congr_left
    intro j hj
    have h6 := List.all_eq_true.1 hR j hj
    rw [Bool.and_eq_true] at h6
    have hlt : j < m := Nat.le_of_ble_eq_true h6.1
    simp only [List.getD_eq_getElem?_getD, List.getElem?_map, List.getElem?_range, hlt, if_true, Option.map_some, Option.getD_some, h6.2, _root_.cond_true]
    have := gspec_get F C hlt
    simp only [List.getD_eq_getElem?_getD] at this
    rw [this]
  rw [e2] at this
  exact this
theorem T.rowcap {e k cap sz : Nat} {A : Option Addr} {cs : List Value} {c : Code} {L : List Asn} {f : Env} (h : k ≤ cap → cap ≤ 9223372036854775807 → T P r n ds S0 w0 G Q c (row e sz A k cap cs :: L) f) : T P r n ds S0 w0 G Q c (row e sz A k cap cs :: L) f := fun w hw => by
  obtain ⟨S1, S2, h1, h2, hd, ⟨c1, c2, c3, c4⟩, hr⟩ := hw.mem
  exact h c2 c3 w hw
theorem TO.rowcap {e k cap sz : Nat} {A : Option Addr} {cs : List Value} {l : List Oper} {L : List Asn} {f : Env} (h : k ≤ cap → cap ≤ 9223372036854775807 → TO P r n ds S0 w0 G ops Q l (row e sz A k cap cs :: L) f) : TO P r n ds S0 w0 G ops Q l (row e sz A k cap cs :: L) f := fun w hw => by
  obtain ⟨S1, S2, h1, h2, hd, ⟨c1, c2, c3, c4⟩, hr⟩ := hw.mem
  exact h c2 c3 w hw
theorem set_flat {xs : List Bytes} {q : Nat} {z : Bytes} (h : q < xs.length) : (xs.flatMap eStr).take (q * 1) ++ [Value.string (str z)] ++ (xs.flatMap eStr).drop (q * 1 + 1) = (xs.set q z).flatMap eStr := by
  have e : ∀ l : List Bytes, l.flatMap eStr = l.map fun x => Value.string (str x) := fun l => by
    induction l with
    | nil => rfl
    | cons x l ih => rw [List.flatMap_cons, ih]; rfl
  rw [e, e, Nat.mul_one, List.set_eq_take_append_cons_drop, if_pos h]
  simp [List.map_take, List.map_drop]
theorem TO.appq {α : Type} {en : α → List Value} {t u e sz bytes k q c' : Nat} {s x : Operand} {A A' : Option Addr} {cap : Nat} {cs : List Value} {xs : List α} {d : Nat} {rest : List Oper} {R : List Asn} {f : Env} {ty : TypeId} {pos : String} {aft : Array Edge} (hr : TyRow P e sz bytes) (ht : P.underlying t = some (.slice e)) (hu : (∃ e', P.underlying u = some (.slice e')) ∨ P.underlying u = some .string)
    (hs : ev n f s = .slice A k cap) (hx : ev n f x = .slice A' q c') (hq : xs.length = q) (he : ∀ x, (en x).length = sz) (hS : Has G (row e sz A k cap cs :: R) (slc en sz A' xs)) (h1 : (xs.flatMap en).all (·.oneCell') = true) (hbytes : (k + q) * bytes ≤ 140737488355328)
    (h : ∀ A' cap', k + q ≤ cap' → TO P r n ds S0 w0 G ops Q rest (row e sz A' (k + q) cap' (cs ++ xs.flatMap en) :: R) (upd f d (.slice A' (k + q) cap'))) :
    TO P r n ds S0 w0 G ops Q (⟨some d, .call ⟨.builtin .append, #[s, x], #[t, u]⟩, ty, pos, aft, none⟩ :: rest) (row e sz A k cap cs :: R) f := by
  subst hq
  exact TO.app hr ht hu hs hx (fun _ _ _ hw => Src.ofSlc he hS hw) (fmLen he xs) h1 hbytes h
/-- A store to an element of a row. -/
theorem TO.rowset {t e sz k cap i : Nat} {x y : Operand} {A : Option Addr} {cs cs' : List Value} {v : Value} {rest : List Oper} {f : Env} {R : List Asn} {ty : TypeId} {pos : String} {aft : Array Edge} (hs : ∀ w, (sizeOf t).run P w = .ok sz w) (hx : ev n f x = pat A (i * sz)) (hy : ev n f y = v) (hk : v.cells.size = sz) (hi : i < k) (h1 : v.cells.toList.all (·.oneCell') = true) (hc : cs.take (i * sz) ++ v.cells.toList ++ cs.drop (i * sz + sz) = cs')
    (h : TO P r n ds S0 w0 G ops Q rest (row e sz A k cap cs' :: R) f) : TO P r n ds S0 w0 G ops Q (⟨none, .store t x y, ty, pos, aft, none⟩ :: rest) (row e sz A k cap cs :: R) f := fun w hw => by
  have hw' : Region.wanted ⟨none, .store t x y, ty, pos, aft, none⟩ (yielded ops (act n f ds).tmps) = true := rfl
  simp only [wpL, hw', if_true]
  refine ⟨fun _ _ => trivial, ?_⟩
  obtain ⟨S1, hlt, hA, hj⟩ := hw.at_ 0 rfl
  obtain ⟨c1, c2, c3, ⟨rfl, c4⟩ | ⟨gb, cur, fr, rfl, hg, hheap, hfr, hcs, htake⟩⟩ := hA
  · omega
  have hik : i * sz + sz ≤ k * sz := by rw [← Nat.succ_mul]; exact Nat.mul_le_mul_right _ hi
  have hkc : k * sz ≤ cap * sz := Nat.mul_le_mul_right _ c2
  have hfit : i * sz + 0 + v.cells.toList.length ≤ cur.size := by rw [Array.length_toList, hk, hcs]; omega
  obtain ⟨w', hr, s1, s2, s3, s4, s5, s6⟩ := run_storeCells (P := P) (b := gb) (i * sz) v.cells.toList 0 w cur hheap hfr hfit (fun u hu => List.all_eq_true.1 h1 u hu)
  have hx' : ev n f x = .pointer (some ⟨gb, i * sz, none⟩) := by rw [hx]; simp [pat]
  rw [Oper.semAt_eq _ _ _ (fun c h => by cases h), act_eval]
  have he : (execOp (ev n f) ⟨none, .store t x y, ty, pos, aft, none⟩).run P w = .ok .skip w' := by
    simp only [execOp, Instr.storeAt, Instr.sureAddr, hx', hy, Sem.run_bind, Sem.run_pure, Result.andThen_ok, storeVar, hs, hk, ne_eq, not_true, if_false, hr]
  rw [he, Oper.uponIn_skip, act_put]
  refine h w' ?_
  have hlen : (over cur (i * sz + 0) v.cells.toList).size = cur.size := by
    simp only [over, List.size_toArray, List.length_append, List.length_take, List.length_drop, Array.length_toList] at *
    omega
  refine hj w' _ ⟨by rw [s1]; exact Nat.le_refl _, fun b hb hn' => s2 b (fun e => hn' (e ▸ hg)), s4, s5, s6⟩ ⟨?_, c2, c3, .inr ⟨gb, _, fr, rfl, .inl hg, s3, by rw [hlen]; exact hfr, by rw [hlen]; exact hcs, ?_⟩⟩
  · subst hc
    simp only [List.length_append, List.length_take, List.length_drop, Array.length_toList, hk, c1]
    omega
  · subst hc
    subst htake
    have e1 : (over cur (i * sz + 0) v.cells.toList).toList = cur.toList.take (i * sz) ++ v.cells.toList ++ cur.toList.drop (i * sz + sz) := by
      simp [over, hk]
    rw [e1]
    exact take_over _ _ (by rw [Array.length_toList, hk]) hik (by rw [Array.length_toList, hcs]; exact hkc)
end
end Go.TL
end
section
/- Walks: what functions of the program do, by contract. Written by a program of this session. -/
set_option linter.unusedVariables false
set_option linter.unusedSimpArgs false
set_option maxRecDepth 100000
set_option maxHeartbeats 800000
namespace Go.Proofs
open Go.TL
attribute [local irreducible] Go.TL.T Go.TL.TO Go.TL.TQ
/- dialtone/dialtonelaw15.WishReads -/
theorem c_law15_WishReads (u : Nums) (A : Option Addr) (m cap : Nat) (hm : m = u.chain.length) (hx : NumsOk u) (hcl : u.chain.length ≤ 9223372036854775807) (wh : Int) (c : UInt8) (wh0 : -9223372036854775808 ≤ wh) (wh1 : wh ≤ 9223372036854775807) : Cv Tryd.prog 9 #[.agg #[.int .i64 u.holder, .int .i64 u.r0, .int .i64 u.r1, .int .i64 u.s0, .int .i64 u.s1, .int .i64 u.carrier, .int .i64 u.serial, .slice A m cap], .int .i64 wh, .int .u8 c.toNat] [glob 0 roundC 157, slc fiveL 5 A u.chain] (.bool true) := by
  subst hm
  have M := made u
  obtain ⟨g1, g2⟩ := M.sg
  obtain ⟨g3, g4⟩ := M.hd
  obtain ⟨g5, g6, g7⟩ := M.rg
  obtain ⟨g8, g9, g0⟩ := M.sp
  have hll := M.len
  obtain ⟨hen, hde⟩ := M.enc
  obtain ⟨hl0, hl1⟩ := enc_len M
  obtain ⟨s, hs⟩ : ∃ s, s = encText (madeW u) (madeL u) := ⟨_, rfl⟩
  rw [← hs] at hen hde hl0 hl1
  refine Ctr.intro Tryd.func9 rfl Tryd.ntmps9 (Nat.le_of_ble_eq_true rfl) fun S0 w0 => ?_
  refine T.seq ?_
  refine T.region ?_
  refine TO.box (v := .agg #[.int _ _, .int _ _, .int _ _, .int _ _, .int _ _, .int _ _, .int _ _, .slice _ _ _]) rfl (fun b1 => ?_)
  refine TO.rd rfl rfl (rd_assign (v := .bool _) rfl) ?_
  refine TO.nil ?_
  refine TQ.then_normal ?_
  refine T.seq ?_
  refine T.region ?_
  refine TO.fn Tryd.enters10 (cv_b (c_law15_sane) (rfl)) rfl (ReadsC (Has.arg 0 rfl) Reads0) ?_
  refine TO.rd rfl rfl (rd_assign (v := .bool _) rfl) ?_
  refine TO.nil ?_
  refine TQ.then_normal ?_
  refine T.seq ?_
  refine T.seq ?_
  refine T.region ?_
  refine TO.rd rfl rfl (rd_move (v := .bool _) rfl) ?_
  refine TO.rd rfl rfl (rd_not rfl) ?_
  refine TO.nil ?_
  refine TQ.then_normal ?_
  refine T.cond_false rfl ?_
  refine T.skip ?_
  refine TQ.then_normal ?_
  refine T.seq ?_
  refine T.region ?_
  refine TO.rd rfl rfl (rd_load_agg (cs := #[.int _ _, .int _ _, .int _ _, .int _ _, .int _ _, .int _ _, .int _ _, .slice _ _ _]) Tryd.agg25 rfl (Has.own 0 rfl) rfl rfl) ?_
  refine TO.fnx Tryd.enters11 (c_ref15_Made u _ _ _ rfl hx hcl) rfl (ReadsC (Has.arg 1 rfl) Reads0) (fun ⟨A2, c3⟩ hx4 => ?_)
  refine TO.rd rfl rfl (rd_move (v := .tuple _) rfl) ?_
  refine TO.rd rfl rfl (rd_extract (v := .agg _) (vs := _) rfl rfl) ?_
  refine TO.rd rfl rfl (rd_extract (v := .slice _ _ _) (vs := _) rfl rfl) ?_
  refine TO.alloc Tryd.zero31 (fun b6 => ?_)
  refine TO.store0 (cells' := #[.int _ _, .int _ _, .int _ _, .int _ _, .int _ _, .int _ _, .int _ _, .int _ _, .string _]) Tryd.size31 rfl (v := .agg #[.int _ _, .int _ _, .int _ _, .int _ _, .int _ _, .int _ _, .int _ _, .int _ _, .string _]) rfl rfl rfl (Nat.le_of_ble_eq_true rfl) rfl ?_
  refine TO.rd rfl rfl (rd_assign (v := .slice _ _ _) rfl) ?_
  refine TO.nil ?_
  refine TQ.then_normal ?_
  refine T.seq ?_
  refine T.region ?_
  refine TO.rd rfl rfl (rd_load_agg (cs := #[.int _ _, .int _ _, .int _ _, .int _ _, .int _ _, .int _ _, .int _ _, .int _ _, .string _]) Tryd.agg31 rfl (Has.own 0 rfl) rfl rfl) ?_
  refine TO.rd rfl rfl (rd_move (v := .slice _ _ _) rfl) ?_
  refine TO.fn Tryd.enters29 (cv_st (c_wish_Encode (madeW u) _ _ _ (madeL u) (by first | rfl | simp | omega) (by first | omega | assumption | simp)) hen) rfl (ReadsC (row_slc' (e := proxyL) (xs := (madeL u)) (fun _ => rfl) (rfl) (rfl) (Has.own 1 rfl)) Reads0) ?_
  refine TO.rd rfl rfl (rd_move (v := .tuple _) rfl) ?_
  refine TO.rd rfl rfl (rd_extract (v := .string _) (vs := _) rfl rfl) ?_
  refine TO.rd rfl rfl (rd_extract (v := .int _ _) (vs := _) rfl rfl) ?_
  refine TO.rd rfl rfl (rd_assign (v := .string _) rfl) ?_
  refine TO.rd rfl rfl (rd_assign (v := .int _ _) rfl) ?_
  refine TO.nil ?_
  refine TQ.then_normal ?_
  refine T.seq ?_
  refine T.region ?_
  refine TO.rd rfl rfl (rd_move (v := .string _) rfl) ?_
  refine TO.fnx Tryd.enters30 (c_wish_Decode (s) (by first | omega | assumption | exact sane_e2)) rfl Reads0 (fun ⟨A7, cap8⟩ hx9 => ?_)
  rw [hde]
  refine TO.rd rfl rfl (rd_move (v := .tuple _) rfl) ?_
  refine TO.rd rfl rfl (rd_extract (v := .agg _) (vs := _) rfl rfl) ?_
  refine TO.rd rfl rfl (rd_extract (v := .slice _ _ _) (vs := _) rfl rfl) ?_
  refine TO.rd rfl rfl (rd_extract (v := .int _ _) (vs := _) rfl rfl) ?_
  refine TO.alloc Tryd.zero31 (fun b11 => ?_)
  refine TO.store0 (cells' := #[.int _ _, .int _ _, .int _ _, .int _ _, .int _ _, .int _ _, .int _ _, .int _ _, .string _]) Tryd.size31 rfl (v := .agg #[.int _ _, .int _ _, .int _ _, .int _ _, .int _ _, .int _ _, .int _ _, .int _ _, .string _]) rfl rfl rfl (Nat.le_of_ble_eq_true rfl) rfl ?_
  refine TO.rd rfl rfl (rd_assign (v := .slice _ _ _) rfl) ?_
  refine TO.rd rfl rfl (rd_assign (v := .int _ _) rfl) ?_
  refine TO.nil ?_
  refine TQ.then_normal ?_
  refine T.seq ?_
  refine T.seq ?_
  refine T.region ?_
  refine TO.rd rfl rfl (rd_move (v := .int _ _) rfl) ?_
  refine TO.rd rfl rfl (rd_b (b := false) (rd_neq rfl rfl) (by first | exact decide_eq_false (by omega) | (rw [bne_eq_false_iff_eq]; omega) | (simp; done) | (simp; omega))) ?_
  refine TO.rd rfl rfl (rd_move (v := .bool _) rfl) ?_
  refine TO.guard_true (s := 45) rfl rfl ?_
  refine TO.rd rfl rfl (rd_move (v := .int _ _) rfl) ?_
  refine TO.guard_true (s := 45) rfl rfl ?_
  refine TO.rd rfl rfl (rd_b (b := false) (rd_neq rfl rfl) (by first | exact decide_eq_false (by omega) | (rw [bne_eq_false_iff_eq]; omega) | (simp; done) | (simp; omega))) ?_
  refine TO.rd rfl rfl (rd_pick_false (v := .bool _) rfl rfl) ?_
  refine TO.rd rfl rfl (rd_move (v := .bool _) rfl) ?_
  refine TO.guard_true (s := 49) rfl rfl ?_
  refine TO.rd rfl rfl (rd_load_agg (cs := #[.int _ _, .int _ _, .int _ _, .int _ _, .int _ _, .int _ _, .int _ _, .int _ _, .string _]) Tryd.agg31 rfl (Has.own 0 rfl) rfl rfl) ?_
  refine TO.guard_true (s := 49) rfl rfl ?_
  refine TO.rd rfl rfl (rd_load_agg (cs := #[.int _ _, .int _ _, .int _ _, .int _ _, .int _ _, .int _ _, .int _ _, .int _ _, .string _]) Tryd.agg31 rfl (Has.own 2 rfl) rfl rfl) ?_
  refine TO.guard_true (s := 49) rfl rfl ?_
  refine TO.rd rfl rfl (rd_b (b := false) (rd_new Tryd.eqty (p := (madeW u)) (q := (madeW u)) rfl rfl) (by first | exact decide_eq_false (by omega) | (rw [bne_eq_false_iff_eq]; omega) | (simp; done) | (simp; omega))) ?_
  refine TO.rd rfl rfl (rd_pick_false (v := .bool _) rfl rfl) ?_
  refine TO.rd rfl rfl (rd_move (v := .bool _) rfl) ?_
  refine TO.guard_true (s := 54) rfl rfl ?_
  refine TO.rd rfl rfl (rd_move (v := .slice _ _ _) rfl) ?_
  refine TO.guard_true (s := 54) rfl rfl ?_
  refine TO.rd rfl rfl (rd_move (v := .slice _ _ _) rfl) ?_
  refine TO.guard_true (s := 54) rfl rfl ?_
  refine TO.fn Tryd.enters31 (cv_b (c_ref15_SameProxies _ _ _ (madeL u) (by first | rfl | simp | omega) _ _ _ (madeL u) (by first | rfl | simp | omega) (by first | omega | assumption | simp)) (decide_eq_true rfl)) rfl (ReadsC (row_slc' (e := proxyL) (xs := (madeL u)) (fun _ => rfl) (rfl) (rfl) (Has.own 1 rfl)) (ReadsC (row_slc' (e := proxyL) (xs := (madeL u)) (fun _ => rfl) (rfl) (rfl) (Has.own 3 rfl)) Reads0)) ?_
  refine TO.guard_true (s := 54) rfl rfl ?_
  refine TO.rd rfl rfl (rd_not rfl) ?_
  refine TO.rd rfl rfl (rd_pick_false (v := .bool _) rfl rfl) ?_
  refine TO.rd rfl rfl (rd_move (v := .bool _) rfl) ?_
  refine TO.guard_true (s := 60) rfl rfl ?_
  refine TO.rd rfl rfl (rd_move (v := .string _) rfl) ?_
  refine TO.guard_true (s := 60) rfl rfl ?_
  refine TO.rd rfl rfl (rd_lens' Tryd.under9 rfl) ?_
  refine TO.guard_true (s := 60) rfl rfl ?_
  refine TO.rd rfl rfl (rd_b (b := false) (rd_eql rfl rfl) (by first | exact decide_eq_false (by omega) | (rw [bne_eq_false_iff_eq]; omega) | (simp; done) | (simp; omega))) ?_
  refine TO.rd rfl rfl (rd_pick_false (v := .bool _) rfl rfl) ?_
  refine TO.nil ?_
  refine TQ.then_normal ?_
  refine T.cond_false rfl ?_
  refine T.skip ?_
  refine TQ.then_normal ?_
  refine T.seq ?_
  refine T.region ?_
  refine TO.rd rfl rfl (rd_move (v := .int _ _) rfl) ?_
  refine TO.rd rfl rfl (rd_move (v := .string _) rfl) ?_
  refine TO.rd rfl rfl (rd_lens' Tryd.under9 rfl) ?_
  have q1 := pickN_lo (c := wh) (n := (s.length : Int)) (by omega)
  have q2 := pickN_hi (c := wh) (n := (s.length : Int)) (by omega)
  refine TO.fn Tryd.enters16 (c_law15_pick _ _ (by omega) (by omega) (by omega) (by omega)) rfl Reads0 ?_
  obtain ⟨k, hk⟩ : ∃ k : Nat, pickN wh (s.length : Int) = (k : Int) := ⟨_, (Int.toNat_of_nonneg q1).symm⟩
  rw [hk]
  have hkl : k < s.length := by omega
  refine TO.rd rfl rfl (rd_assign (v := .int _ _) rfl) ?_
  refine TO.nil ?_
  refine TQ.then_normal ?_
  refine T.seq ?_
  refine T.seq ?_
  refine T.drawg Tryd.mixes 24 [(69, 0), (70, 1), (71, 2), (72, 3), (73, 4), (74, 5), (75, 6), (76, 7), (77, 8), (78, 9), (79, 10), (80, 11), (81, 12), (82, 13), (83, 14), (84, 15), (85, 16), (86, 17), (87, 18), (88, 19), (89, 20), (90, 21), (91, 22), (92, 23)] [0, 0, 3, 0, 8, 24, 63, 0, 0, 256, 896, 2047, 0, 0, 12288, 0, 0, 98304, 0, 0, 786432, 2097151, 4194303, 0] [4, 21] (by kernel_rfl) ?_
  refine DG.rd rfl rfl rfl (fun _ _ => rd_move (v := .string _) rfl) ?_
  refine DG.rd rfl rfl rfl (fun _ _ => rd_move (v := .int _ _) rfl) ?_
  refine DG.rd rfl rfl rfl (fun _ _ => rd_sub_str (i := 0) (j := k) Tryd.under9 rfl (.inl ⟨rfl, rfl⟩) (.inr ⟨.i64, by exact eqv (by omega)⟩) (by omega) (by omega) rfl) ?_
  refine DG.rd rfl rfl rfl (fun _ _ => rd_move (v := .int _ _) rfl) ?_
  refine DG.buildS (cs := [.int _ _]) rfl rfl Tryd.under71 Tryd.size5 Tryd.zero5 (Nat.le_of_ble_eq_true rfl) (fun _ _ => rfl) ?_
  refine DG.rdp rfl rfl rfl (fun ρ g M hM => rd_row_str (l := [c]) (k := 1) (cap := 1) Tryd.under71 Tryd.under5 Tryd.under9 rfl (has_ownrow rfl (by decide) (Has.fromM 4 (hM 4 rfl)))) ?_
  refine DG.rd rfl rfl rfl (fun _ _ => rd_cat' rfl rfl (by first | omega | (simp only [List.length_append, List.length_drop, List.length_take, List.length_cons, List.length_nil]; omega)) rfl) ?_
  refine DG.rd rfl rfl rfl (fun _ _ => rd_move (v := .string _) rfl) ?_
  refine DG.rd rfl rfl rfl (fun _ _ => rd_move (v := .int _ _) rfl) ?_
  refine DG.rd rfl rfl rfl (fun _ _ => rd_add rfl rfl (w64 (by first | omega | (simp only [List.length_cons, List.length_nil]; omega)) (by first | omega | (simp only [List.length_cons, List.length_nil]; omega)))) ?_
  refine DG.rd rfl rfl rfl (fun _ _ => rd_sub_str (i := k + 1) (j := s.length) Tryd.under9 rfl (.inr ⟨.i64, by exact eqv (by omega)⟩) (.inl ⟨rfl, rfl⟩) (by omega) (by omega) rfl) ?_
  refine DG.rd rfl rfl rfl (fun _ _ => rd_cat' rfl rfl (by first | omega | (simp only [List.length_append, List.length_drop, List.length_take, List.length_cons, List.length_nil]; omega)) rfl) ?_
  refine DG.rd rfl rfl rfl (fun _ _ => rd_move (v := .string _) rfl) ?_
  refine DG.rd rfl rfl rfl (fun _ _ => rd_move (v := .int _ _) rfl) ?_
  refine DG.rd rfl rfl rfl (fun _ _ => rd_sub_str (i := 0) (j := k) Tryd.under9 rfl (.inl ⟨rfl, rfl⟩) (.inr ⟨.i64, by exact eqv (by omega)⟩) (by omega) (by omega) rfl) ?_
  refine DG.rd rfl rfl rfl (fun _ _ => rd_move (v := .string _) rfl) ?_
  refine DG.rd rfl rfl rfl (fun _ _ => rd_move (v := .int _ _) rfl) ?_
  refine DG.rd rfl rfl rfl (fun _ _ => rd_sub_str (i := k) (j := s.length) Tryd.under9 rfl (.inr ⟨.i64, by exact eqv (by omega)⟩) (.inl ⟨rfl, rfl⟩) (by omega) (by omega) rfl) ?_
  refine DG.rd rfl rfl rfl (fun _ _ => rd_move (v := .string _) rfl) ?_
  refine DG.rd rfl rfl rfl (fun _ _ => rd_move (v := .string _) rfl) ?_
  refine DG.rd rfl rfl rfl (fun _ _ => rd_cat' rfl rfl (by first | omega | (simp only [List.length_append, List.length_drop, List.length_take, List.length_cons, List.length_nil]; omega)) rfl) ?_
  refine DG.buildS (cs := [.string _, .string _, .string _, .string _]) rfl rfl Tryd.under46 Tryd.size9 Tryd.zero9 (Nat.le_of_ble_eq_true rfl) (fun _ _ => rfl) ?_
  refine DG.rd rfl rfl rfl (fun _ _ => rd_lensl Tryd.under46 rfl) ?_
  refine DG.rd rfl rfl rfl (fun _ _ => rd_move (v := .int _ _) rfl) ?_
  refine DG.done rfl (by decide) rfl (fun gh14 => ?_)
  refine TO.nil ?_
  refine TQ.then_normal ?_
  refine T.block ?_
  refine T.loop1 [7, 10, 90, 91] (fun (q : Nat) => [(92, .int .i64 (q : Nat))]) (fun (q : Nat) => []) (fun (q : Nat) => q ≤ 4) (fun (q : Nat) => 4 - q) (0) (Nat.zero_le _) (And.intro (rfl) (trivial)) (fun _ _ h => h) fun q g0 hx0 => ?_
  refine T.seq ?_
  refine T.region ?_
  refine TO.rd rfl rfl (rd_lss rfl rfl) ?_
  refine TO.nil ?_
  refine TQ.then_normal ?_
  refine T.seq ?_
  refine T.cond_ft rfl (fun h15 => ?_) (fun h15 => ?_)
  · try simp only [decide_eq_true_eq, decide_eq_false_iff_not, Bool.not_eq_true', Bool.not_eq_false', Bool.not_eq_eq_eq_not, Bool.not_true, Bool.not_false, beq_iff_eq, beq_eq_false_iff_ne, bne_iff_ne, bne_eq_false_iff_eq, ne_eq, Int.not_lt, Int.not_le, Decidable.not_not] at h15
    refine T.exit ?_
    refine TQ.then_exit ?_
    refine TQ.then_exit ?_
    refine TQ.block_out ?_
    refine TQ.then_normal ?_
    refine T.seq ?_
    refine T.region ?_
    refine TO.rd rfl rfl (rd_move (v := .bool _) rfl) ?_
    refine TO.rd rfl rfl (rd_assign (v := .bool _) rfl) ?_
    refine TO.nil ?_
    refine TQ.then_normal ?_
    refine T.ret ?_
    refine TQ.value ?_ (res1 Tryd.results9 (Res.tmp (v := .bool _) rfl)) _ (.inl rfl)
    rfl
  try simp only [decide_eq_true_eq, decide_eq_false_iff_not, Bool.not_eq_true', Bool.not_eq_false', Bool.not_eq_eq_eq_not, Bool.not_true, Bool.not_false, beq_iff_eq, beq_eq_false_iff_ne, bne_iff_ne, bne_eq_false_iff_eq, ne_eq, Int.not_lt, Int.not_le, Decidable.not_not] at h15
  refine T.skip ?_
  refine TQ.then_normal ?_
  refine T.seq ?_
  refine T.block ?_
  refine T.seq ?_
  refine T.region ?_
  refine TO.rd rfl rfl (rd_ix (k := q) Tryd.under46 Tryd.size9 rfl rfl (own_slc (e := eStr) [(s.take k).drop 0 ++ [c] ++ (s.take s.length).drop (k + 1), (s.take k).drop 0, (s.take s.length).drop k, s ++ s] rfl (fun _ => rfl) (Has.own 1 rfl) (by simp)) rfl (by first | omega | (simp only [List.length_cons, List.length_nil]; omega)) (by first | omega | (simp only [List.length_cons, List.length_nil]; omega))) ?_
  refine TO.rd rfl rfl (rd_el (v := .string _) q 0 Tryd.one9 rfl (own_slc (e := eStr) [(s.take k).drop 0 ++ [c] ++ (s.take s.length).drop (k + 1), (s.take k).drop 0, (s.take s.length).drop k, s ++ s] rfl (fun _ => rfl) (Has.own 1 rfl) (by simp)) rfl (by first | omega | (simp only [List.length_cons, List.length_nil]; omega)) (Nat.le_of_ble_eq_true rfl) rfl) ?_
  obtain ⟨z, hz⟩ : ∃ z, [(s.take k).drop 0 ++ [c] ++ (s.take s.length).drop (k + 1), (s.take k).drop 0, (s.take s.length).drop k, s ++ s][q]'(by simp only [List.length_cons, List.length_nil]; omega) = z := ⟨_, rfl⟩
  rw [hz]
  have hzl : z.length ≤ 1000000000000 := by
    have hzm : z ∈ [(s.take k).drop 0 ++ [c] ++ (s.take s.length).drop (k + 1), (s.take k).drop 0, (s.take s.length).drop k, s ++ s] := hz ▸ List.getElem_mem _
    simp only [List.mem_cons, List.not_mem_nil, or_false] at hzm
    rcases hzm with rfl | rfl | rfl | rfl <;> simp only [List.length_append, List.length_drop, List.length_take, List.length_cons, List.length_nil] <;> omega
  refine TO.rd rfl rfl (rd_assign (v := .string _) rfl) ?_
  refine TO.nil ?_
  refine TQ.then_normal ?_
  refine T.seq ?_
  refine T.region ?_
  refine TO.rd rfl rfl (rd_move (v := .string _) rfl) ?_
  refine TO.fnx Tryd.enters30 (c_wish_Decode (z) (by first | omega | assumption | exact sane_e2)) rfl Reads0 (fun ⟨A16, cap17⟩ hx18 => ?_)
  refine TO.rd rfl rfl (rd_move (v := .tuple _) rfl) ?_
  refine TO.rd rfl rfl (rd_extract (v := .agg _) (vs := _) rfl rfl) ?_
  refine TO.rd rfl rfl (rd_extract (v := .slice _ _ _) (vs := _) rfl rfl) ?_
  refine TO.rd rfl rfl (rd_extract (v := .int _ _) (vs := _) rfl rfl) ?_
  refine TO.alloc Tryd.zero31 (fun b20 => ?_)
  refine TO.store0 (cells' := #[.int _ _, .int _ _, .int _ _, .int _ _, .int _ _, .int _ _, .int _ _, .int _ _, .string _]) Tryd.size31 rfl (v := .agg #[.int _ _, .int _ _, .int _ _, .int _ _, .int _ _, .int _ _, .int _ _, .int _ _, .string _]) rfl rfl rfl (Nat.le_of_ble_eq_true rfl) rfl ?_
  refine TO.rd rfl rfl (rd_assign (v := .slice _ _ _) rfl) ?_
  refine TO.rd rfl rfl (rd_assign (v := .int _ _) rfl) ?_
  refine TO.nil ?_
  refine TQ.then_normal ?_
  refine T.seq ?_
  refine T.region ?_
  refine TO.rd rfl rfl (rd_move (v := .int _ _) rfl) ?_
  refine TO.rd rfl rfl (rd_eql rfl rfl) ?_
  refine TO.nil ?_
  refine TQ.then_normal ?_
  refine T.cond_ft rfl (fun h21 => ?_) (fun h21 => ?_)
  · try simp only [decide_eq_true_eq, decide_eq_false_iff_not, Bool.not_eq_true', Bool.not_eq_false', Bool.not_eq_eq_eq_not, Bool.not_true, Bool.not_false, beq_iff_eq, beq_eq_false_iff_ne, bne_iff_ne, bne_eq_false_iff_eq, ne_eq, Int.not_lt, Int.not_le, Decidable.not_not] at h21
    refine T.seq ?_
    refine T.region ?_
    refine TO.rd rfl rfl (rd_move (v := .int _ _) rfl) ?_
    have hdb := decode_bad h21
    refine TO.rd rfl rfl (rd_b (b := false) (rd_neq rfl rfl) (by rw [hdb]; rfl)) ?_
    refine TO.rd rfl rfl (rd_move (v := .bool _) rfl) ?_
    refine TO.guard_true (s := 125) rfl rfl ?_
    refine TO.rd rfl rfl (rd_load_agg (cs := #[.int _ _, .int _ _, .int _ _, .int _ _, .int _ _, .int _ _, .int _ _, .int _ _, .string _]) Tryd.agg31 rfl (Has.own 0 rfl) rfl rfl) ?_
    refine TO.guard_true (s := 125) rfl rfl ?_
    refine TO.rd rfl rfl (rd_build (cs := [.int _ _, .int _ _, .int _ _, .int _ _, .int _ _, .int _ _, .int _ _, .int _ _, .string _]) Tryd.places31 Tryd.zero31 rfl rfl) ?_
    refine TO.guard_true (s := 125) rfl rfl ?_
    refine TO.rd rfl rfl (rd_b (b := false) (rd_new Tryd.eqty (p := (decodeOf z).1) (q := wish0) rfl rfl) (by rw [hdb]; simp)) ?_
    refine TO.rd rfl rfl (rd_pick_false (v := .bool _) rfl rfl) ?_
    refine TO.rd rfl rfl (rd_move (v := .bool _) rfl) ?_
    refine TO.guard_true (s := 130) rfl rfl ?_
    refine TO.rd rfl rfl (rd_move (v := .slice _ _ _) rfl) ?_
    refine TO.guard_true (s := 130) rfl rfl ?_
    refine TO.rd rfl rfl (rd_lensl Tryd.under32 rfl) ?_
    refine TO.guard_true (s := 130) rfl rfl ?_
    refine TO.rd rfl rfl (rd_b (b := false) (rd_gtr rfl rfl) (by rw [hdb]; rfl)) ?_
    refine TO.rd rfl rfl (rd_pick_false (v := .bool _) rfl rfl) ?_
    refine TO.rd rfl rfl (rd_move (v := .bool _) rfl) ?_
    refine TO.guard_true (s := 135) rfl rfl ?_
    refine TO.rd rfl rfl (rd_move (v := .string _) rfl) ?_
    refine TO.guard_true (s := 135) rfl rfl ?_
    refine TO.rd rfl rfl (rd_move (v := .string _) rfl) ?_
    refine TO.guard_true (s := 135) rfl rfl ?_
    refine TO.rd rfl rfl (rd_b (b := false) (rd_eqs' rfl rfl) (by rw [beq_eq_false_iff_ne]; rintro rfl; rw [hde] at hdb; simp at hdb)) ?_
    refine TO.rd rfl rfl (rd_pick_false (v := .bool _) rfl rfl) ?_
    refine TO.nil ?_
    refine TQ.then_normal ?_
    refine T.cond_false rfl ?_
    refine T.skip ?_
    refine TQ.block_normal ?_
    refine TQ.then_normal ?_
    refine T.region ?_
    refine TO.rd rfl rfl (rd_add rfl rfl (w64 (by first | omega | (simp only [List.length_cons, List.length_nil]; omega)) (by first | omega | (simp only [List.length_cons, List.length_nil]; omega)))) ?_
    refine TO.rd rfl rfl (rd_move (v := .int _ _) rfl) ?_
    refine TO.nil ?_
    refine TQ.againk (q + 1) ?_ ?_ (And.intro (rfl) (trivial)) (And.intro (rfl) (And.intro (rfl) (And.intro (rfl) (And.intro (rfl) (trivial))))) (fun _ _ h => h.sel (js := [2, 3, 4, 5, 6, 7, 8]) (by decide))
    · first | omega | (dsimp only; omega)
    · first | omega | (dsimp only; omega)
  try simp only [decide_eq_true_eq, decide_eq_false_iff_not, Bool.not_eq_true', Bool.not_eq_false', Bool.not_eq_eq_eq_not, Bool.not_true, Bool.not_false, beq_iff_eq, beq_eq_false_iff_ne, bne_iff_ne, bne_eq_false_iff_eq, ne_eq, Int.not_lt, Int.not_le, Decidable.not_not] at h21
  refine T.seq ?_
  refine T.region ?_
  refine TO.rd rfl rfl (rd_load_agg (cs := #[.int _ _, .int _ _, .int _ _, .int _ _, .int _ _, .int _ _, .int _ _, .int _ _, .string _]) Tryd.agg31 rfl (Has.own 0 rfl) rfl rfl) ?_
  have hdt := decode_text h21
  have hdl := (formedOk_parts hdt.2).2.1
  refine TO.rd rfl rfl (rd_move (v := .slice _ _ _) rfl) ?_
  refine TO.fn Tryd.enters29 (cv_st (c_wish_Encode ((decodeOf z).1) _ _ _ (decodeOf z).2.1 (by first | rfl | simp | omega) (by first | omega | assumption | simp)) hdt.1) rfl (ReadsC (row_slc' (e := proxyL) (xs := (decodeOf z).2.1) (fun _ => rfl) (rfl) (rfl) (Has.own 1 rfl)) Reads0) ?_
  refine TO.rd rfl rfl (rd_move (v := .tuple _) rfl) ?_
  refine TO.rd rfl rfl (rd_extract (v := .string _) (vs := _) rfl rfl) ?_
  refine TO.rd rfl rfl (rd_extract (v := .int _ _) (vs := _) rfl rfl) ?_
  refine TO.rd rfl rfl (rd_assign (v := .string _) rfl) ?_
  refine TO.rd rfl rfl (rd_assign (v := .int _ _) rfl) ?_
  refine TO.nil ?_
  refine TQ.then_normal ?_
  refine T.seq ?_
  refine T.region ?_
  refine TO.rd rfl rfl (rd_move (v := .int _ _) rfl) ?_
  refine TO.rd rfl rfl (rd_b (b := false) (rd_neq rfl rfl) (by first | exact decide_eq_false (by omega) | (rw [bne_eq_false_iff_eq]; omega) | (simp; done) | (simp; omega))) ?_
  refine TO.rd rfl rfl (rd_move (v := .bool _) rfl) ?_
  refine TO.guard_true (s := 112) rfl rfl ?_
  refine TO.rd rfl rfl (rd_move (v := .string _) rfl) ?_
  refine TO.guard_true (s := 112) rfl rfl ?_
  refine TO.rd rfl rfl (rd_move (v := .string _) rfl) ?_
  refine TO.guard_true (s := 112) rfl rfl ?_
  refine TO.rd rfl rfl (rd_b (b := false) (rd_nes' rfl rfl) (by simp)) ?_
  refine TO.rd rfl rfl (rd_pick_false (v := .bool _) rfl rfl) ?_
  refine TO.rd rfl rfl (rd_move (v := .bool _) rfl) ?_
  refine TO.guard_true (s := 117) rfl rfl ?_
  refine TO.rd rfl rfl (rd_load_agg (cs := #[.int _ _, .int _ _, .int _ _, .int _ _, .int _ _, .int _ _, .int _ _, .int _ _, .string _]) Tryd.agg31 rfl (Has.own 0 rfl) rfl rfl) ?_
  refine TO.guard_true (s := 117) rfl rfl ?_
  refine TO.rd rfl rfl (rd_move (v := .slice _ _ _) rfl) ?_
  refine TO.guard_true (s := 117) rfl rfl ?_
  refine TO.fn Tryd.enters14 (cv_b (c_wish_Formed ((decodeOf z).1) _ _ _ (decodeOf z).2.1 (by first | rfl | simp | omega) (by first | omega | assumption | simp)) hdt.2) rfl (ReadsC (row_slc' (e := proxyL) (xs := (decodeOf z).2.1) (fun _ => rfl) (rfl) (rfl) (Has.own 1 rfl)) Reads0) ?_
  refine TO.guard_true (s := 117) rfl rfl ?_
  refine TO.rd rfl rfl (rd_not rfl) ?_
  refine TO.rd rfl rfl (rd_pick_false (v := .bool _) rfl rfl) ?_
  refine TO.nil ?_
  refine TQ.then_normal ?_
  refine T.cond_false rfl ?_
  refine T.skip ?_
  refine TQ.block_normal ?_
  refine TQ.then_normal ?_
  refine T.region ?_
  refine TO.rd rfl rfl (rd_add rfl rfl (w64 (by first | omega | (simp only [List.length_cons, List.length_nil]; omega)) (by first | omega | (simp only [List.length_cons, List.length_nil]; omega)))) ?_
  refine TO.rd rfl rfl (rd_move (v := .int _ _) rfl) ?_
  refine TO.nil ?_
  refine TQ.againk (q + 1) ?_ ?_ (And.intro (rfl) (trivial)) (And.intro (rfl) (And.intro (rfl) (And.intro (rfl) (And.intro (rfl) (trivial))))) (fun _ _ h => h.sel (js := [2, 3, 4, 5, 6, 7, 8]) (by decide))
  · first | omega | (dsimp only; omega)
  · first | omega | (dsimp only; omega)
end Go.Proofs
end
section
/- WishReads: for every input the law returns true and the arguments read as they did (the tied card of the statement). Conditions: none beyond the card's own. -/
set_option linter.unusedVariables false
set_option linter.unusedSimpArgs false
set_option maxRecDepth 100000
namespace Go.Proofs.YtlcbpicpociipaaDoor
open Go Go.TL Go.ChangeShapes Go.WideShapes Go.RowKit
theorem wishReads_lifted (os : Os) (started : os.Started) (H : Type) (enc : TypeId × Value → H) : ReturnsInHanded {} Tryd.checked os 9 .any (fun w args => (Rows.wishReadsSpec.pre enc Tryd.prog Tryd.f9 [] false w args ∧ laidMetH Tryd.prog laidC w) ∧ sizedMet enc Tryd.prog Tryd.f9 (OpenSpec.ofChange Rows.wishReadsSpec) false w args) (Rows.wishReadsSpec.post enc Tryd.prog Tryd.f9 false true false false) := by
  refine returns_law (C := Tryd.checked) (k := 3) Tryd.own started (by kernel_rfl) Tryd.func9 Tryd.laidOut
    (ChangeSpec.witness_at (enc := enc) (C := Tryd.checked) (os := os) (X := fun w _ => laidMetH Tryd.prog laidC w) false (World.laidAll Tryd.prog os laidC) #[.agg #[.int .i64 0, .int .i64 0, .int .i64 0, .int .i64 0, .int .i64 0, .int .i64 0, .int .i64 0, .slice none 0 0], .int .i64 0, .int .u8 0] 8 (World.laidAll_os _ _ _) (by kernel_rfl) (by kernel_rfl) (by kernel_rfl) (by kernel_rfl) (by kernel_rfl) (by rw [MakeChecks.laidMetH_plain _ _ _ (by kernel_rfl)]; exact laidMet_laidAll _ (by kernel_rfl) (by kernel_rfl)))
    rfl Tryd.tyB (by kernel_rfl) rfl (by kernel_rfl) (fun ds h => ?_) ?_
  · match ds, h with
    | [d0, d1, d2], _ => rfl
  · intro W base args ds p hval hA hL hsh
    have hp : Tryd.f9.params = #[25, 3, 5] := Tryd.params9
    rw [hp] at hval hA
    obtain ⟨hlen, hget⟩ := args_of (params := [25, 3, 5]) (fun j t v h1 h2 => hval j t v (by simpa using h1) h2) hA
    obtain ⟨v0, v1, v2, hargs⟩ : ∃ v0 v1 v2, args.toList = [v0, v1, v2] := by
      match args.toList, hlen with
      | [v0, v1, v2], _ => exact ⟨v0, v1, v2, rfl⟩
    rw [hargs] at hget
    obtain rfl : args = #[v0, v1, v2] := by rw [show args = args.toList.toArray from rfl, hargs]
    obtain ⟨u0, A0, m0, p0, rfl, hm0, hx0, hc0, hs0⟩ := Arg.nums Tryd.numTy (hget 0 25 v0 rfl rfl)
    obtain ⟨n1, rfl, h1⟩ := Arg.i64 Tryd.tyI (hget 1 3 v1 rfl rfl)
    obtain ⟨c2, rfl⟩ := Arg.u8 Tryd.ty8 (hget 2 5 v2 rfl rfl)
    refine ⟨_, c_law15_WishReads u0 A0 m0 p0 hm0 hx0 hc0 n1 c2 h1.1 h1.2, fun X hX => ?_⟩
    simp only [List.mem_cons, List.not_mem_nil, or_false] at hX
    rcases hX with rfl | rfl
    · exact glob_round hL hsh
    · exact hs0
theorem wishReads_row : Rows.WishReadsSaid :=
  OpenClaim.holds_of_wide 9 Tryd.f9 rfl rfl rfl rfl rfl rfl rfl ⟨rfl, rfl, rfl, rfl, rfl⟩ rfl rfl rfl rfl rfl (by kernel_rfl) Tryd.func9 (by kernel_rfl)
    (of_decide_eq_true (by kernel_rfl)) (by unfold Func.isWrapper; rw [if_neg (of_decide_eq_false (by kernel_rfl))]; exact ⟨rfl, rfl⟩)
    (fun os started H enc _ => wishReads_lifted os started H enc)
theorem wishReads_card : Rows.WishReadsCardSaid :=
  Claim7.holds_tied_plain_at .later [] [.data] true (true, "1955aadbdfd000943dcbd3e0cfec305833d08dd00e3708b93b07653100246b85") true wishReads_row (fun _ h => by cases h) (by kernel_rfl) (fun _ h => by cases h) wishReads_row_tie rfl ⟨rfl, rfl⟩ (by kernel_rfl) rfl
    (fun f fn hf hfn => by
      obtain rfl : f = 9 := Option.some.inj ((show Tryd.prog.funcNamed "dialtone/dialtonelaw15.WishReads" = some 9 by kernel_rfl).symm.trans hf) |>.symm
      obtain rfl : fn = Tryd.f9 := (Option.some.inj (Tryd.func9.symm.trans hfn)).symm
      exact ⟨by kernel_rfl, fun j t ht => by
        rw [Tryd.params9] at ht
        have hm : t ∈ [25, 3, 5] := by simpa using Array.mem_of_getElem? ht
        have hall : ([25, 3, 5].all fun u => !Tryd.prog.wantsStandIn u) = true := by kernel_rfl
        exact (show Tryd.prog.wantsStandIn t = false by simpa using List.all_eq_true.1 hall t hm)⟩)
    (by kernel_rfl)
#print axioms wishReads_card
end Go.Proofs.YtlcbpicpociipaaDoor
end
