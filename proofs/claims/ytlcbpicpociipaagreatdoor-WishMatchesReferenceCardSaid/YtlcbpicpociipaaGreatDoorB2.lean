/- What the proof of WishMatchesReference leans on, part 2: a small program logic, plain facts, walks of functions. No statement of the seat is proved here. -/
import Derived.Test.YtlcbpicpociipaaGreatDoorB1
import Derived.Below
import Derived.Carry
import Derived.ChangeCalls
import Derived.ChangeOld
import Derived.ChangeSame
import Derived.Handed
import Derived.JoinedOf
import Derived.LaidMore
import Derived.Laws.IdiomCopy
import Derived.Laws.MakeOwn
import Derived.Laws.StructEq
import Derived.Lay
import Derived.Lib.Builder
import Derived.Lib.MakeNoZero
import Derived.Lib.UnsafeStr
import Derived.MakeChecks
import Derived.OpenShut
import Derived.Recover
import Derived.RowKit
import Derived.SevenTiedAt
import Derived.Stop.Joined
import Derived.Test.YtlcbpicpociipaaGreatDoorCards
import Derived.Test.YtlcbpicpociipaaGreatDoorProg
import Derived.Test.YtlcbpicpociipaaGreatDoorRows
import Derived.Test.YtlcbpicpociipaaGreatDoorTie
section
/- Strings that are built, bits of 64-bit words, pointers, for the walks. No program is named here. -/
set_option linter.unusedVariables false
set_option linter.unusedSimpArgs false
namespace Go.TL
theorem T.open_bun {P : Program} {r : Option Nat} {n : Nat} {ds : List Deferred} {S0 : Nat → Prop} {w0 : World} {G R : List Asn} {f : Env} {Q : Exit → Act → World → Prop} {c : Code} {σ : Type} {φ : σ → Prop} {Lf : σ → List Asn}
    (h : ∀ x, φ x → T P r n ds S0 w0 G Q c (Lf x ++ R) f) : T P r n ds S0 w0 G Q c (bun φ Lf :: R) f := fun w hw => by
  obtain ⟨S1, S2, h1, h2, hd, ⟨x, hx, ha⟩, hr⟩ := hw.mem
  exact h x hx w ⟨hw.ok, hw.lo, hw.args, Seps.app h1 h2 hd ha hr⟩
theorem TO.open_bun {P : Program} {r : Option Nat} {n : Nat} {ds : List Deferred} {S0 : Nat → Prop} {w0 : World} {G R : List Asn} {f : Env} {Q : Exit → Act → World → Prop} {ops : Array Oper} {l : List Oper} {σ : Type} {φ : σ → Prop} {Lf : σ → List Asn}
    (h : ∀ x, φ x → TO P r n ds S0 w0 G ops Q l (Lf x ++ R) f) : TO P r n ds S0 w0 G ops Q l (bun φ Lf :: R) f := fun w hw => by
  obtain ⟨S1, S2, h1, h2, hd, ⟨x, hx, ha⟩, hr⟩ := hw.mem
  exact h x hx w ⟨hw.ok, hw.lo, hw.args, Seps.app h1 h2 hd ha hr⟩
theorem Seps.bunned {σ : Type} {φ : σ → Prop} {Lf : σ → List Asn} {R : List Asn} {S : Nat → Prop} {w : World} (x : σ) (hx : φ x) (h : Seps (Lf x ++ R) S w) : Seps (bun φ Lf :: R) S w := by
  obtain ⟨S1, S2, h1, h2, hd, ha, hr⟩ := h.split
  exact ⟨S1, S2, h1, h2, hd, ⟨x, hx, ha⟩, hr⟩
theorem vintF_ne {k z : Nat} (h : 0 < k) : 0 < (vintF k z).length := by
  obtain ⟨j, rfl⟩ : ∃ j, k = j + 1 := ⟨k - 1, by omega⟩
  simp only [vintF]
  cases Nat.blt z 128 <;> simp
theorem vintF_at : ∀ {k z i : Nat} (hi : i < (vintF k z).length), z < 128 ^ k →
    (vintF k z)[i] = UInt8.ofNat (if z / 128 ^ i < 128 then z / 128 ^ i else z / 128 ^ i % 128 + 128) ∧ (z / 128 ^ i < 128 ↔ i + 1 = (vintF k z).length)
  | 0, _, _, hi, _ => by simp [vintF] at hi
  | k + 1, z, i, hi, hz => by
    by_cases h : z < 128
    · have hv := vintF_end (k := k) h
      have hi' : i = 0 := by rw [hv] at hi; simpa using hi
      subst hi'
      simp [hv, h]
    · have hv := vintF_go (k := k) (z := z) (by omega)
      obtain ⟨j, hj, hj0⟩ := pow128_pos hz (by omega)
      have hkj : k = j := by omega
      have hne := vintF_ne (k := k) (z := z / 128) (by omega)
      cases i with
      | zero =>
        simp [hv, h]
        intro h'
        rw [h'] at hne
        simp at hne
      | succ i =>
        have hl : i < (vintF k (z / 128)).length := by rw [hv] at hi; simpa using hi
        have ih := vintF_at hl (pow128 hz)
        rw [Nat.div_div_eq_div_mul, Nat.mul_comm, ← Nat.pow_succ] at ih
        simp only [hv, List.getElem_cons_succ, List.length_cons]
        exact ⟨ih.1, by rw [ih.2]; omega⟩
theorem vint_at {z i : Nat} (hz : z < 18446744073709551616) (hi : i < (vint z).length) :
    (vint z)[i] = UInt8.ofNat (if z / 128 ^ i < 128 then z / 128 ^ i else z / 128 ^ i % 128 + 128) ∧ (z / 128 ^ i < 128 ↔ i + 1 = (vint z).length) := vintF_at hi (Nat.lt_of_lt_of_le hz (by decide))
theorem vint_snoc {z k g : Nat} (hz : z < 18446744073709551616) (hk : k < (vint z).length) (hg : g = if z / 128 ^ k < 128 then z / 128 ^ k % 128 else z / 128 ^ k % 128 + 128) :
    bytesC ((vint z).take k) ++ [.int .u8 (g : Int)] = bytesC ((vint z).take (k + 1)) := by
  rw [← take_snoc hk, bytesC_append, (vint_at hz hk).1]
  congr 1
  simp only [bytesC, List.map_cons, List.map_nil, List.cons.injEq, and_true, Value.int.injEq, true_and]
  rw [hg, UInt8.toNat_ofNat']
  generalize z / 128 ^ k = q
  split <;> omega
theorem vint_len (z : Nat) : 0 < (vint z).length ∧ (vint z).length ≤ 10 := ⟨vintF_ne (by omega), vintF_length _ _⟩
/-- A string that is being built, in a block of its own. -/
def bldL (e T b : Nat) (t : Bytes) (x : Value × Option Addr × Nat) : List Asn := [own b #[x.1, .slice x.2.1 t.length x.2.2] T, row e 1 x.2.1 t.length x.2.2 (bytesC t)]
def bldP (b : Nat) (x : Value × Option Addr × Nat) : Prop := x.1 = .pointer none ∨ x.1 = .pointer (some ⟨b, 0, none⟩)
def bld (e T b : Nat) (t : Bytes) : Asn := bun (bldP b) (bldL e T b t)
theorem bld_new {e T b : Nat} {L : List Asn} {S : Nat → Prop} {w : World} (h : Seps (own b #[.pointer none, .slice none 0 0] T :: L) S w) : Seps (bld e T b [] :: L) S w := by
  obtain ⟨S1, S2, h1, h2, hd, ha, hr⟩ := h
  refine Seps.bunned (Lf := bldL e T b []) (.pointer none, none, 0) (.inl rfl) ⟨S1, S2, h1, h2, hd, ha, Seps.add hr nil_row⟩
section
variable {P : Program} {r : Option Nat} {n : Nat} {ds : List Deferred} {S0 : Nat → Prop} {w0 : World} {G L L' R : List Asn} {f : Env} {Q : Exit → Act → World → Prop} {ops : Array Oper} {rest : List Oper}
  {d : Option Tmp} {ty : TypeId} {pos : String} {aft : Array Edge} {ρ : Operand → Value} {g : Option (Nat × Bool)}
theorem TQ.newrow {e : Exit} (t sz : Nat) (h : TQ n ds S0 w0 G Q e (row t sz none 0 0 [] :: L) f) : TQ n ds S0 w0 G Q e L f := h.conv fun S w hs => hs.add nil_row
theorem T.tobld {c : Code} {e T b : Nat} (h : TL.T P r n ds S0 w0 G Q c (bld e T b [] :: R) f) : TL.T P r n ds S0 w0 G Q c (own b #[.pointer none, .slice none 0 0] T :: R) f := h.conv fun _ _ => bld_new
theorem TO.tobld {l : List Oper} {e T b : Nat} (h : TO P r n ds S0 w0 G ops Q l (bld e T b [] :: R) f) : TO P r n ds S0 w0 G ops Q l (own b #[.pointer none, .slice none 0 0] T :: R) f := h.conv fun _ _ => bld_new
theorem T.open_bld {c : Code} {e T b : Nat} {t : Bytes} (h : ∀ (av : Value) (A0 : Option Addr) (c0 : Nat), (av = .pointer none ∨ av = .pointer (some ⟨b, 0, none⟩)) → TL.T P r n ds S0 w0 G Q c (own b #[av, .slice A0 t.length c0] T :: row e 1 A0 t.length c0 (bytesC t) :: R) f) : TL.T P r n ds S0 w0 G Q c (bld e T b t :: R) f :=
  TL.T.open_bun fun x hx => h x.1 x.2.1 x.2.2 hx
theorem Seps.tobld {e T b k c0 : Nat} {t : Bytes} {av : Value} {A0 : Option Addr} {cs : List Value} {S : Nat → Prop} {w : World} (hav : av = .pointer none ∨ av = .pointer (some ⟨b, 0, none⟩)) (hk : k = t.length) (hc : cs = bytesC t) (h : Seps (own b #[av, .slice A0 k c0] T :: row e 1 A0 k c0 cs :: R) S w) : Seps (bld e T b t :: R) S w := by
  subst hk; subst hc
  exact Seps.bunned (Lf := bldL e T b t) (av, A0, c0) hav h
theorem TO.bld_eq {l : List Oper} {e T b : Nat} {t : Bytes} (t' : Bytes) (ht : t = t') (h : TO P r n ds S0 w0 G ops Q l (bld e T b t' :: R) f) : TO P r n ds S0 w0 G ops Q l (bld e T b t :: R) f := by subst ht; exact h
theorem rd_clo {fn : Fn} {cs : Array Operand} {b : List Value} (hc : cs.toList.map ρ = b) : Reads P G L ⟨d, .makeFunc fn #[] cs, ty, pos, aft, g⟩ ρ (.func fn #[] b.toArray) := rd_makeFunc (by simp) (by subst hc; apply Array.ext'; simp)
/-! ### Words of 64 bits -/
section
variable {x y : Operand} {t t' : TypeId}
theorem rd_and127 {a : Nat} {c : Int} (hx : ρ x = .int .u64 (a : Int)) (hy : ρ y = .int .u64 c) (hc : c = 127) (ha : a < 18446744073709551616) : Reads P G L ⟨d, .binOp .and t x y t', ty, pos, aft, g⟩ ρ (.int .u64 ((a % 128 : Nat) : Int)) := rd_and hx hy (by
  subst hc
  rw [show (127 : Int) = ((127 : Nat) : Int) from rfl, u64_and_nat _ _ ha (by omega)]
  exact congrArg _ (Nat.and_two_pow_sub_one_eq_mod a 7))
theorem rd_shr7 {a : Nat} {c : Int} {k : IntKind} (hx : ρ x = .int .u64 (a : Int)) (hy : ρ y = .int k c) (hc : c = 7) : Reads P G L ⟨d, .binOp .shr t x y t', ty, pos, aft, g⟩ ρ (.int .u64 ((a / 128 : Nat) : Int)) := rd_shr hx hy (by omega) (by
  exact fdiv_pow (a := a) (q := 7) (e := c) hc (by omega))
theorem rd_shr7' {a q : Nat} {c : Int} {k : IntKind} (hx : ρ x = .int .u64 (a : Int)) (hy : ρ y = .int k c) (hc : c = 7) (hq : a / 128 = q) : Reads P G L ⟨d, .binOp .shr t x y t', ty, pos, aft, g⟩ ρ (.int .u64 ((q : Nat) : Int)) := hq ▸ rd_shr7 hx hy hc
theorem rd_or128 {a : Nat} {c : Int} (hx : ρ x = .int .u8 (a : Int)) (hy : ρ y = .int .u8 c) (hc : c = 128) (ha : a < 128) : Reads P G L ⟨d, .binOp .or t x y t', ty, pos, aft, g⟩ ρ (.int .u8 ((a + 128 : Nat) : Int)) := rd_or hx hy (by
  subst hc
  rw [show (128 : Int) = ((128 : Nat) : Int) from rfl, u8_or_nat _ _ (by omega) (by omega)]
  have : ∀ m, m < 128 → m ||| 128 = m + 128 := by decide
  rw [this a ha])
def zshl (n : Int) : Nat := (2 * n % 18446744073709551616).toNat
def zsgn (n : Int) : Nat := if n < 0 then 18446744073709551615 else 0
theorem zz_shl (n : Int) : IntKind.u64.wrap (IntKind.u64.wrap n * 2 ^ (min (1 : Int).toNat IntKind.u64.bits)) = (zshl n : Int) := by
  rw [show min (1 : Int).toNat IntKind.u64.bits = 1 from rfl, wrap_u64, wrap_u64, zshl]
  omega
theorem zz_sgn {n : Int} (h1 : -9223372036854775808 ≤ n) (h2 : n < 9223372036854775808) : IntKind.u64.wrap (n.fdiv (2 ^ (min (63 : Int).toNat IntKind.i64.bits))) = (zsgn n : Int) := by
  rw [show min (63 : Int).toNat IntKind.i64.bits = 63 from rfl, Int.fdiv_eq_ediv_of_nonneg _ (by decide), wrap_u64, zsgn]
  simp only [show (2 : Int) ^ 63 = 9223372036854775808 from rfl]
  split <;> omega
theorem zz_zig {n : Int} (h1 : -4611686018427387903 ≤ n) (h2 : n ≤ 4611686018427387903) : bits .xor .u64 (zshl n : Int) (zsgn n : Int) = (zig n : Int) := by
  have hl : zshl n < 18446744073709551616 := by unfold zshl; omega
  rw [u64_xor_nat _ _ hl (by unfold zsgn; split <;> omega)]
  congr 1
  unfold zsgn zig
  split
  · have h : zshl n ^^^ 18446744073709551615 = (BitVec.ofNat 64 (zshl n) ^^^ BitVec.allOnes 64).toNat := by
      rw [BitVec.toNat_xor, BitVec.toNat_ofNat, Nat.mod_eq_of_lt (by omega)]; rfl
    rw [h, BitVec.xor_allOnes, BitVec.toNat_not, BitVec.toNat_ofNat, Nat.mod_eq_of_lt (by omega)]
    unfold zshl
    omega
  · rw [Nat.xor_zero]
    unfold zshl
    omega
end
/-! ### Pointers -/
section
variable {x y : Operand} {t t' te : TypeId} {j : TypeInfo}
theorem rd_eqpn (ht : P.underlying t = some (.pointer te)) (hx : ρ x = .pointer none) (hy : ρ y = .pointer none) : Reads P G L ⟨d, .binOp .eql t x y t', ty, pos, aft, g⟩ ρ (.bool true) := .of (fun c h => by cases h) fun w => by
  have h : ∀ d : Nat, (Op.equalIn (d + 1) t (.pointer none) (.pointer none)).run P w = .ok true w := fun d => by simp [Op.equalIn, run_underlying ht]
  have hg : (eqGuard .eql t x y (.pointer none) (.pointer none)).run P w = .ok () w := rfl
  simp only [execOp, hx, hy, binOp]
  simp [Op.equal, Op.maxDepth, h 9999, hg]
theorem rd_eqps {a : Addr} (ht : P.underlying t = some (.pointer te)) (hx : ρ x = .pointer (some a)) (hy : ρ y = .pointer none) : Reads P G L ⟨d, .binOp .eql t x y t', ty, pos, aft, g⟩ ρ (.bool false) := .of (fun c h => by cases h) fun w => by
  have h : ∀ d : Nat, (Op.equalIn (d + 1) t (.pointer (some a)) (.pointer none)).run P w = .ok false w := fun d => by simp [Op.equalIn, run_underlying ht]
  have hg : (eqGuard .eql t x y (.pointer (some a)) (.pointer none)).run P w = .ok () w := rfl
  simp only [execOp, hx, hy, binOp]
  simp [Op.equal, Op.maxDepth, h 9999, hg]
theorem rd_neqp {a : Addr} (ht : P.underlying t = some (.pointer te)) (hte : P.info? te = some j) (hx : ρ x = .pointer (some a)) (hy : ρ y = .pointer (some a)) : Reads P G L ⟨d, .binOp .neq t x y t', ty, pos, aft, g⟩ ρ (.bool false) := .of (fun c h => by cases h) fun w => by
  have hg : (eqGuard .neq t x y (.pointer (some a)) (.pointer (some a))).run P w = .ok () w := rfl
  simp only [execOp, hx, hy, Sem.run_bind, hg, Lib.run_neq_ptr_same w a ht hte, Result.andThen_ok, Sem.run_pure]
def TyBig (P : Program) (t : TypeId) : Prop := (P.info? t).any (fun j => j.size != 0) = true
theorem TyBig.ex {t : TypeId} (h : TyBig P t) : ∃ j, P.info? t = some j ∧ j.size ≠ 0 := by
  unfold TyBig at h
  cases e : P.info? t with
  | none => rw [e] at h; cases h
  | some j => rw [e] at h; exact ⟨j, rfl, by simpa using h⟩
theorem rd_neqp' {a : Addr} (ht : P.underlying t = some (.pointer te)) (hte : TyBig P te) (hx : ρ x = .pointer (some a)) (hy : ρ y = .pointer (some a)) : Reads P G L ⟨d, .binOp .neq t x y t', ty, pos, aft, g⟩ ρ (.bool false) := by
  obtain ⟨j, h, _⟩ := hte.ex
  exact rd_neqp ht h hx hy
theorem rd_to_unsafe {b T : Nat} {cs : Array Value} (hs : P.underlying t = some (.pointer te)) (hd : P.underlying t' = some .unsafePointer) (hte : TyBig P te) (hx : ρ x = .pointer (some ⟨b, 0, none⟩)) (hh : Has G L (own b cs T)) (hc : 0 < cs.size) :
    Reads P G L ⟨d, .convert t t' x, ty, pos, aft, g⟩ ρ (.pointer (some ⟨b, 0, none⟩)) := ⟨(fun c h => by cases h), by
  intro S0 w0 w hw
  have ⟨_, hb⟩ := hh.st hw
  obtain ⟨j, ht, hj⟩ := hte.ex
  simp only [execOp, hx, Sem.run_bind, Lib.run_to_unsafe w ⟨b, 0, none⟩ hs hd ht hj (e := T) (cells := cs.size) (by simp [World.shape?, hb]) hc, Result.andThen_ok, Sem.run_pure]⟩
theorem rd_from_unsafe {b T : Nat} {cs : Array Value} (hs : P.underlying t = some .unsafePointer) (hd : P.underlying t' = some (.pointer te)) (hte : TyBig P te) (hx : ρ x = .pointer (some ⟨b, 0, none⟩)) (hh : Has G L (own b cs T)) (hl : liesAt P P.depth T (cs.size / P.cellsOf T) 0 te 1 = true) :
    Reads P G L ⟨d, .convert t t' x, ty, pos, aft, g⟩ ρ (.pointer (some ⟨b, 0, none⟩)) := ⟨(fun c h => by cases h), by
  intro S0 w0 w hw
  have ⟨_, hb⟩ := hh.st hw
  obtain ⟨j, ht, hj⟩ := hte.ex
  simp only [execOp, hx, Sem.run_bind, Lib.run_from_unsafe w ⟨b, 0, none⟩ hs hd ht (e := T) (cells := cs.size) (by simp [World.shape?, hb]) hl, Result.andThen_ok, Sem.run_pure]⟩
end
/-- A function without a body that hands its argument back. -/
def Same (P : Program) (q : FuncId) : Prop := ∀ v w, (callFunc q #[v]).run P w = .ok (.value v) w
theorem rd_same {q : FuncId} {x : Operand} {t : TypeId} {v : Value} (hq : Same P q) (hf : ρ (.func q) = .func (.func q) #[] #[]) (hx : ρ x = v) : Reads P G L ⟨d, .call ⟨.value (.func q), #[x], #[t]⟩, ty, pos, aft, g⟩ ρ v := .of (fun c h => by cases h) fun w => by
  simp only [execOp, resolve, Deferred.ofValue, Sem.run_bind, Sem.run_pure, Result.andThen_ok, invoke]
  simpa [hx, hf] using hq v w
theorem rd_sliceData {x : Operand} {t : TypeId} {a : Addr} {m c : Nat} (hx : ρ x = .slice (some a) m c) (hc : c ≠ 0) : Reads P G L ⟨d, .call ⟨.builtin .unsafeSliceData, #[x], #[t]⟩, ty, pos, aft, g⟩ ρ (.pointer (some a)) := .of (fun c h => by cases h) fun w => by
  simp only [execOp, resolve, Sem.run_bind, Sem.run_pure, Result.andThen_ok, invoke, builtin]
  simp [hx, Lib.run_unsafeSliceData_row _ _ _ _ _ _ hc]
/-- The bytes of a row as a string: the row is given up. -/
theorem TO.ustr {x y : Operand} {pt it e cap b : Nat} {s : Bytes} {d : Nat} (hp : P.underlying pt = some (.pointer e)) (hc : P.cellsOf e = 1) (hx : ev n f x = .pointer (some ⟨b, 0, none⟩)) (hy : ev n f y = .int .i64 (s.length : Int)) (h0 : s ≠ [])
    (h : TO P r n ds S0 w0 G ops Q rest R (upd f d (.string (str s)))) :
    TO P r n ds S0 w0 G ops Q (⟨some d, .call ⟨.builtin .unsafeString, #[x, y], #[pt, it]⟩, ty, pos, aft, none⟩ :: rest) (row e 1 (some ⟨b, 0, none⟩) s.length cap (bytesC s) :: R) f := fun w hw => by
  have hw' : Region.wanted ⟨some d, .call ⟨.builtin .unsafeString, #[x, y], #[pt, it]⟩, ty, pos, aft, none⟩ (yielded ops (act n f ds).tmps) = true := rfl
  simp only [wpL, hw', if_true]
  refine ⟨fun _ _ => trivial, ?_⟩
  obtain ⟨S1, hlt, hA, hX, hj⟩ := St.open_ (A := [row e 1 (some ⟨b, 0, none⟩) s.length cap (bytesC s)]) (R := R) hw
  obtain ⟨c1, c2, c3, c4⟩ := seps_one hA
  rcases c4 with ⟨c4, _⟩ | ⟨gb, cur, fr, hA', hg, hheap, hfr, hcs, htake⟩
  · cases c4
  cases hA'
  rw [Nat.mul_one] at hcs htake
  have hus := Lib.run_unsafeString_row (P := P) w pt it ty e hp hc b cur.size (by simp [World.shape?, hheap]) s h0 (by omega) (by omega) (fun i v hi => by
    rw [add_plain, cell_own hheap]
    have h1 : (bytesC s)[i]? = some (.int .u8 v.toNat) := by simp [bytesC, hi]
    rw [← htake, List.getElem?_take] at h1
    split at h1
    · simpa using h1
    · cases h1)
  rw [Oper.semAt_eq _ _ _ (fun c h => by cases h), act_eval]
  have he : (execOp (ev n f) ⟨some d, .call ⟨.builtin .unsafeString, #[x, y], #[pt, it]⟩, ty, pos, aft, none⟩).run P w = .ok (.value (.string (str s))) (w.freeze ⟨b, 0, none⟩ s.length) := by
    simp only [execOp, resolve, Sem.run_bind, Sem.run_pure, Result.andThen_ok, invoke, builtin]
    simp [hx, hy, hus, str]
  rw [he, Oper.uponIn_value, act_put]
  refine h _ (hj _ [] ⟨?_, fun q hq hn => ?_, ?_, ?_, ?_⟩ trivial)
  · simp [World.freeze, h0]
  · simp only [World.freeze, List.length_eq_zero_iff, h0, if_false]
    have hne : b ≠ q := fun e => hn (e ▸ hg)
    simp [Array.getElem?_modify, hne]
  all_goals simp [World.freeze, h0]
/-- A row's place, where it is not empty. -/
theorem T.rowbase {e k cap sz : Nat} {A : Option Addr} {cs : List Value} {c : Code} (hk : 0 < k) (h : ∀ b, A = some ⟨b, 0, none⟩ → k ≤ cap → T P r n ds S0 w0 G Q c (row e sz A k cap cs :: R) f) : T P r n ds S0 w0 G Q c (row e sz A k cap cs :: R) f := fun w hw => by
  obtain ⟨S1, S2, h1, h2, hd, ⟨c1, c2, c3, c4⟩, hr⟩ := hw.mem
  rcases c4 with ⟨_, c4⟩ | ⟨gb, cur, fr, hA', hg, hheap, hfr, hcs, htake⟩
  · omega
  · exact h gb hA' c2 w hw
theorem TO.rowbase {e k cap sz : Nat} {A : Option Addr} {cs : List Value} {l : List Oper} (hk : 0 < k) (h : ∀ b, A = some ⟨b, 0, none⟩ → k ≤ cap → cap ≤ 9223372036854775807 → TO P r n ds S0 w0 G ops Q l (row e sz A k cap cs :: R) f) : TO P r n ds S0 w0 G ops Q l (row e sz A k cap cs :: R) f := fun w hw => by
  obtain ⟨S1, S2, h1, h2, hd, ⟨c1, c2, c3, c4⟩, hr⟩ := hw.mem
  rcases c4 with ⟨_, c4⟩ | ⟨gb, cur, fr, hA', hg, hheap, hfr, hcs, htake⟩
  · omega
  · exact h gb hA' c2 c3 w hw
theorem TO.guard_off {d : Option Tmp} {op : Op} {ty : TypeId} {pos : String} {aft : Array Edge} {j s : Nat} {b : Bool} {l : List Oper} (hj : (ops.toList[j]?).bind (·.dst) = some s) (hv : f s = undef)
    (h : TO P r n ds S0 w0 G ops Q l L (put f d undef)) : TO P r n ds S0 w0 G ops Q (⟨d, op, ty, pos, aft, some (j, b)⟩ :: l) L f := fun w hw => by
  have hy : yielded ops (act n f ds).tmps j = none := by
    unfold yielded
    rw [← Array.getElem?_toList, hj]
    simp only [act]
    by_cases h : s < n
    · simp [h, hv, undef]
    · simp [h, undef]
  have hw2 : Region.wanted ⟨d, op, ty, pos, aft, some (j, b)⟩ (yielded ops (act n f ds).tmps) = false := by simp [Region.wanted, hy]
  simp only [wpL, hw2, Bool.false_eq_true, if_false, act_put]
  exact h w hw
/-- A variable of a package. -/
def glob (g : Nat) (cells : Array Value) (t : TypeId) : Asn := ⟨fun S w => S g ∧ ∃ fr, w.heap[g]? = some (.cells cells t fr), fun h ⟨hs, fr, hw⟩ => ⟨(h _ hs).1, fr, (h _ hs).2.trans hw⟩⟩
/-- New memory of whatever bytes. -/
def MkZ (P : Program) (q : FuncId) (t : TypeId) : Prop := ∃ ps, ∀ v w, (callFunc q #[v]).run P w = (do let u ← Extern.BytealgMakeNoZero.makeNoZero ps #[t] #[v]; pure (Next.value u)).run P w
theorem TO.mkz {q : FuncId} {x : Operand} {xt t e m : Nat} {d : Nat} (hq : MkZ P q t) (ht : P.underlying t = some (.slice e)) (hx : ev n f x = .int .i64 (m : Int)) (hm : m ≤ 140737488355328)
    (h : ∀ (A : Option Addr) (cap : Nat), m ≤ cap → TO P r n ds S0 w0 G ops Q rest (row e 1 A 0 cap [] :: L) (upd f d (.slice A m cap))) :
    TO P r n ds S0 w0 G ops Q (⟨some d, .call ⟨.value (.func q), #[x], #[xt]⟩, ty, pos, aft, none⟩ :: rest) L f := fun w hw => by
  have hw' : Region.wanted ⟨some d, .call ⟨.value (.func q), #[x], #[xt]⟩, ty, pos, aft, none⟩ (yielded ops (act n f ds).tmps) = true := rfl
  simp only [wpL, hw', if_true]
  refine ⟨fun _ _ => trivial, ?_⟩
  obtain ⟨ps, hq⟩ := hq
  obtain ⟨cs, hr, h1, h2⟩ := Lib.run_makeNoZero (P := P) w ps t e ht m (by omega)
  have hcs := h2 (by unfold maxLen; omega)
  rw [Oper.semAt_eq _ _ _ (fun c h => by cases h), act_eval]
  have he : (execOp (ev n f) ⟨some d, .call ⟨.value (.func q), #[x], #[xt]⟩, ty, pos, aft, none⟩).run P w = .ok (.value (.slice (some ⟨w.heap.size, 0, none⟩) m cs.size)) (w.drew.drew.alloc (.cells cs e)) := by
    have := hq (.int .i64 (m : Int)) w
    simp only [Sem.run_bind, hr, Result.andThen_ok, Sem.run_pure] at this
    simp only [execOp, resolve, Deferred.ofValue, Sem.run_bind, Sem.run_pure, Result.andThen_ok, invoke, ev]
    simpa [hx] using this
  rw [he, Oper.uponIn_value, act_put]
  obtain ⟨S1, hlt, _, _, hj⟩ := St.open_ (A := []) (R := L) hw
  refine h _ cs.size h1 _ (hj _ [row e 1 (some ⟨w.heap.size, 0, none⟩) 0 cs.size []] ⟨by simp, fun b hb _ => heap_alloc_old w.drew.drew _ b hb, rfl, rfl, rfl⟩ (one_seps ⟨by simp, Nat.zero_le _, by simpa [maxLen] using hcs, .inr ⟨w.heap.size, cs, (0, 0), rfl, .inr ⟨Nat.le_refl _, by simp⟩, heap_alloc_new w.drew.drew _, .inl (Nat.le_refl _), by simp, by simp⟩⟩))
theorem rd_capl {x : Operand} {t e : TypeId} {A : Option Addr} {m c : Nat} (ht : P.underlying t = some (.slice e)) (hx : ρ x = .slice A m c) : Reads P G L ⟨d, .call ⟨.builtin .cap, #[x], #[t]⟩, ty, pos, aft, g⟩ ρ (.int .i64 (c : Int)) := .of (fun c h => by cases h) fun w => by
  simp only [execOp, resolve, Sem.run_bind, Sem.run_pure, Result.andThen_ok, invoke, builtin]
  simp [hx, Builtin.cap_, run_underlying ht, goInt]
theorem rd_copy0 {x y : Operand} {t u e : TypeId} {A B : Option Addr} {dc sl sc : Nat} (ht : P.underlying t = some (.slice e)) (hs : (P.info? e).map (·.size) = some 1) (hx : ρ x = .slice A 0 dc) (hy : ρ y = .slice B sl sc) : Reads P G L ⟨d, .call ⟨.builtin .copy, #[x, y], #[t, u]⟩, ty, pos, aft, g⟩ ρ (.int .i64 0) := .of (fun c h => by cases h) fun w => by
  simp only [execOp, resolve, Sem.run_bind, Sem.run_pure, Result.andThen_ok, invoke, builtin]
  have := run_copy_none (P := P) w t u ty e A B 0 dc sl sc ht hs (by simp [Nat.min_def])
  simp [hx, hy, this, goInt]
end
end Go.TL
end
section
/- Arrays, parts of slices, copies, a package's variable, for the walks. No program is named here. -/
set_option linter.unusedVariables false
set_option linter.unusedSimpArgs false
namespace Go.TL
section
variable {P : Program} {r : Option Nat} {n : Nat} {ds : List Deferred} {S0 : Nat → Prop} {w0 : World} {G L L' R : List Asn} {f : Env} {Q : Exit → Act → World → Prop} {ops : Array Oper} {rest : List Oper}
  {d : Option Tmp} {ty : TypeId} {pos : String} {aft : Array Edge} {ρ : Operand → Value} {g : Option (Nat × Bool)} {x y : Operand} {v : Value}
theorem rd_ixa {t e sz b o m : Nat} {kk : IntKind} {i : Int} (k : Nat) (ht : P.underlying t = some (.array m e)) (hs : ∀ w, (sizeOf e).run P w = .ok sz w) (hx : ρ x = .pointer (some ⟨b, o, none⟩)) (hy : ρ y = .int kk i) (hi : i = (k : Int)) (hk : k < m) :
    Reads P G L ⟨d, .indexAddr t x y, ty, pos, aft, g⟩ ρ (.pointer (some ⟨b, o + k * sz, none⟩)) := .of (fun c h => by cases h) fun w => by
  subst hi
  have h0 : (0 : Int) ≤ (k : Int) ∧ ((k : Int) < (m : Int)) := ⟨by omega, by omega⟩
  simp only [execOp, Instr.indexAt, hx, hy, asIntOf, Sem.run_bind, Sem.run_pure, Result.andThen_ok, run_underlying ht]
  simp [h0.2, hs, add_plain, Instr.sureAddr]
theorem rd_loadk {b a t t' : Nat} {cs : List Value} (k : Nat) (ht : TyOne P t) (hx : ρ x = .pointer (some ⟨b, a, none⟩)) (hh : Has G L (own b cs.toArray t')) (ha : a = 0 + k * 1) (hc : cs[k]? = some v) :
    Reads P G L ⟨d, .load t x, ty, pos, aft, g⟩ ρ v := by
  rw [Nat.zero_add, Nat.mul_one] at ha
  subst ha
  exact rd_load ht hx hh (by simpa using hc)
theorem rd_index_arr {t e m : Nat} {cs : Array Value} {kk : IntKind} {i : Int} (k : Nat) (ht : P.underlying t = some (.array m e)) (h1 : TyOne P e) (hs : ∀ w, (sizeOf e).run P w = .ok 1 w) (hx : ρ x = .agg cs) (hy : ρ y = .int kk i) (hi : i = (k : Int)) (hk : k < m) (hc : cs[k]? = some v) :
    Reads P G L ⟨d, .index t x y, ty, pos, aft, g⟩ ρ v := .of (fun c h => by cases h) fun w => by
  subst hi
  have h0 : ((k : Int) < (m : Int)) := by omega
  simp only [execOp, Instr.index, hx, hy, asIntOf, Sem.run_bind, Sem.run_pure, Result.andThen_ok, run_underlying ht]
  simp [h0, hs, Go.part, h1.agg, hc]
theorem rd_glob {b k t t' : Nat} {cs : Array Value} (ht : TyAgg P t k) (hx : ρ x = .pointer (some ⟨b, 0, none⟩)) (hh : Has G L (glob b cs t')) (hk : cs.size = k) :
    Reads P G L ⟨d, .load t x, ty, pos, aft, g⟩ ρ (.agg cs) := by
  refine ⟨(fun c h => by cases h), fun S0 w0 w hw => ?_⟩
  have ⟨_, fr, hs⟩ := hh.st hw
  have hr := run_loadCellsFrom (P := P) (w := w) (a := ⟨b, 0, none⟩) cs.toList 0 #[] (fun j hj => by
    rw [add_plain, cell_own hs]
    simp at hj ⊢)
  have e : cs.toList.length = k := by simpa using hk
  rw [e] at hr
  simp only [execOp, Instr.loadAt, Instr.sureAddr, hx, Sem.run_bind, Sem.run_pure, Result.andThen_ok, loadVar, ht.agg, if_true, ht.size, loadCells, hr]
  simp
/-- A slice of an array. -/
theorem rd_slice_arr {t a e m b o i j sz : Nat} {lo hi : Option Operand} (ht : P.underlying t = some (.array m e)) (hs : ∀ w, (sizeOf e).run P w = .ok sz w) (hx : ρ x = .pointer (some ⟨b, o, none⟩))
    (hlo : lo.map ρ = none ∧ i = 0 ∨ ∃ k, lo.map ρ = some (.int k i)) (hhi : hi.map ρ = none ∧ j = m ∨ ∃ k, hi.map ρ = some (.int k j)) (hij : i ≤ j) (hj : j ≤ m) (him : i < m) :
    Reads P G L ⟨d, .slice t x lo hi none, ty, pos, aft, g⟩ ρ (.slice (some ⟨b, o + i * sz, none⟩) (j - i) (m - i)) := .of (fun c h => by cases h) fun w => by
  have hb : (Instr.sliceBounds false m m (lo.map ρ) (hi.map ρ) none).run P w = .ok (i, j, m) w := by
    rcases hlo with ⟨hlo, rfl⟩ | ⟨k, hlo⟩ <;> rcases hhi with ⟨hhi, rfl⟩ | ⟨k', hhi⟩ <;> rw [hlo, hhi] <;> simp only [Instr.sliceBounds, Sem.run_bind, Sem.run_pure, Result.andThen_ok]
    · rw [run_sliceBound (by omega) (by omega)]; simp
    · rw [run_sliceBound (by omega) (by omega)]; simp
    · rw [run_sliceBound (by omega) (by omega)]; simp only [Result.andThen_ok]; rw [run_sliceBound (by omega) (by simp; omega)]; simp
  have hne : ¬ (m = i) := by omega
  simp only [execOp, Instr.sliceAt, Instr.sureAddr, hx, Sem.run_bind, run_underlying ht, Result.andThen_ok, Option.map_none, hb, Sem.run_pure, hs]
  simp [hne, add_plain]
/-- 's[lo:hi:max]'. -/
theorem rd_slice3 {t e sz : TypeId} {A : Option Addr} {m cap i j q : Nat} {lo hi mx : Operand} {k1 k2 k3 : IntKind} {a b c : Int} (ht : P.underlying t = some (.slice e)) (hs : ∀ w, (sizeOf e).run P w = .ok sz w) (hx : ρ x = .slice A m cap)
    (hlo : ρ lo = .int k1 a) (hhi : ρ hi = .int k2 b) (hmx : ρ mx = .int k3 c) (ha : a = (i : Int)) (hb : b = (j : Int)) (hc : c = (q : Int)) (hij : i ≤ j) (hjq : j ≤ q) (hq : q ≤ cap) (hiq : i < q) :
    Reads P G L ⟨d, .slice t x (some lo) (some hi) (some mx), ty, pos, aft, g⟩ ρ (.slice (A.map (·.add (i * sz))) (j - i) (q - i)) := .of (fun c h => by cases h) fun w => by
  subst ha hb hc
  have hb : (Instr.sliceBounds true m cap (some (.int k1 (i : Int))) (some (.int k2 (j : Int))) (some (.int k3 (q : Int)))).run P w = .ok (i, j, q) w := by
    simp only [Instr.sliceBounds, Sem.run_bind, Sem.run_pure, Result.andThen_ok]
    rw [run_sliceBound (by omega) (by omega)]; simp only [Result.andThen_ok, Int.toNat_natCast]
    rw [run_sliceBound (by omega) (by omega)]; simp only [Result.andThen_ok, Int.toNat_natCast]
    rw [run_sliceBound (by omega) (by omega)]; simp
  simp only [execOp, Instr.sliceAt, hx, Sem.run_bind, run_underlying ht, Result.andThen_ok, Instr.slice, Option.map_some, hlo, hhi, hmx, hb, Sem.run_pure, hs]
  rw [if_neg (by omega)]
theorem TO.own_eq {l : List Oper} {b t : Nat} {cells cells' : Array Value} (h : cells = cells') (k : TO P r n ds S0 w0 G ops Q l (own b cells' t :: R) f) : TO P r n ds S0 w0 G ops Q l (own b cells t :: R) f := by subst h; exact k
theorem part_all' {cs : List Value} {k : Nat} (h : cs.length = k) : TL.part cs.toArray 0 k = cs.toArray := by
  subst h; simp [TL.part]
theorem rd_load_all {b k t t' : Nat} {cs : List Value} (ht : TyAgg P t k) (hx : ρ x = .pointer (some ⟨b, 0, none⟩)) (hh : Has G L (own b cs.toArray t')) (hk : cs.length = k) :
    Reads P G L ⟨d, .load t x, ty, pos, aft, g⟩ ρ (.agg cs.toArray) := rd_load_agg ht hx hh (part_all' hk) (by simpa using hk)
theorem TO.store_all {b k t t' : Nat} {cs cs0 : List Value} (hs : ∀ w, (sizeOf t).run P w = .ok k w) (hx : ev n f x = .pointer (some ⟨b, 0, none⟩)) (hy : ev n f y = .agg cs.toArray) (hk : cs.length = k) (hk0 : cs0.length = k) (h1 : cs.all (·.oneCell') = true)
    (h : TO P r n ds S0 w0 G ops Q rest (own b cs.toArray t' :: R) f) :
    TO P r n ds S0 w0 G ops Q (⟨none, .store t x y, ty, pos, aft, none⟩ :: rest) (own b cs0.toArray t' :: R) f :=
  TO.store0 hs hx hy (by simpa [Value.cells] using hk) (by simp [over, Value.cells, hk, hk0]) (by simp [hk0]) (by simpa [Value.cells] using h1) h
theorem TQ.own_eq {e : Exit} {b t : Nat} {cells cells' : Array Value} (h : cells = cells') (k : TQ n ds S0 w0 G Q e (own b cells' t :: R) f) : TQ n ds S0 w0 G Q e (own b cells t :: R) f := by subst h; exact k
theorem slc_part {α : Type} {e : α → List Value} {sz b o a i j : Nat} {xs : List α} (hh : Has G L (slc e sz (some ⟨b, o, none⟩) xs)) (hj : j ≤ xs.length) (ha : a = o + i * sz) : Has G L (slc e sz (some ⟨b, a, none⟩) ((xs.take j).drop i)) := fun Z S w hG hL => by
  subst ha
  rcases hh Z S w hG hL with rfl | ⟨b', o', hA, hb, cells, t, fr, hw, hc⟩
  · left; simp
  · cases hA
    right
    refine ⟨b, o + i * sz, rfl, hb, cells, t, fr, hw, fun k hk q hq => ?_⟩
    simp only [List.length_drop, List.length_take] at hk
    have := hc (i + k) (by omega) q hq
    rw [show o + i * sz + k * sz + q = o + (i + k) * sz + q from by rw [Nat.add_mul]; omega, this]
    simp
theorem rd_slice3' {t e sz : TypeId} {b o o' m cap i j q l : Nat} {lo hi mx : Operand} {k1 k2 k3 : IntKind} {a1 a2 a3 : Int} (ht : P.underlying t = some (.slice e)) (hs : ∀ w, (sizeOf e).run P w = .ok sz w) (hx : ρ x = .slice (some ⟨b, o, none⟩) m cap)
    (hlo : ρ lo = .int k1 a1) (hhi : ρ hi = .int k2 a2) (hmx : ρ mx = .int k3 a3) (ha : a1 = (i : Int)) (hb : a2 = (j : Int)) (hc : a3 = (q : Int)) (hij : i ≤ j) (hjq : j ≤ q) (hq : q ≤ cap) (hiq : i < q) (ho : o + i * sz = o') (hl : j - i = l) (hl2 : q - i = l) :
    Reads P G L ⟨d, .slice t x (some lo) (some hi) (some mx), ty, pos, aft, g⟩ ρ (.slice (some ⟨b, o', none⟩) l l) := by
  have := rd_slice3 (P := P) (G := G) (L := L) (d := d) (ty := ty) (pos := pos) (aft := aft) (g := g) ht hs hx hlo hhi hmx ha hb hc hij hjq hq hiq
  rw [hl, hl2] at this
  simpa [add_plain, ho] using this
theorem add_zero' (a : Addr) : a.add 0 = a := by
  cases a; simp [Addr.add]
/-- 's[:n]'. -/
theorem rd_slice_head {t e sz j m cap : Nat} {A : Option Addr} {hi : Operand} {k : IntKind} {b : Int} (ht : P.underlying t = some (.slice e)) (hs : ∀ w, (sizeOf e).run P w = .ok sz w) (hx : ρ x = .slice A m cap) (hhi : ρ hi = .int k b) (hb : b = (j : Int)) (hj : j ≤ cap) :
    Reads P G L ⟨d, .slice t x none (some hi) none, ty, pos, aft, g⟩ ρ (.slice A j cap) := by
  subst hb
  have hb' : ∀ w, (Instr.sliceBounds true m cap none (some (.int k (j : Int))) none).run P w = .ok (0, j, cap) w := fun w => by
    simp only [Instr.sliceBounds, Sem.run_bind, Sem.run_pure, Result.andThen_ok]
    rw [run_sliceBound (by omega) (by omega)]; simp
  refine .of (fun c h => by cases h) fun w => ?_
  simp only [execOp, Instr.sliceAt, hx, Sem.run_bind, run_underlying ht, Result.andThen_ok, Instr.slice, Option.map_none, Option.map_some, hhi, hb', Sem.run_pure, hs]
  have e1 : (A.map (·.add (0 * sz))) = A := by
    rw [Nat.zero_mul]
    cases A with
    | none => rfl
    | some a => simp [add_zero']
  have e2 : (if cap = 0 then A else A.map (·.add (0 * sz))) = A := by rw [e1]; split <;> rfl
  simp only [e2, Nat.sub_zero]
/-- A copy within an array of the call's own. -/
theorem TO.copy0 {t u e b od os ld ls cd cs' tt : Nat} {cs : List Value} {cells' : Array Value} (ht : P.underlying t = some (.slice e)) (hs : ∀ w, (sizeOf e).run P w = .ok 1 w)
    (hx : ev n f x = .slice (some ⟨b, od, none⟩) ld cd) (hy : ev n f y = .slice (some ⟨b, os, none⟩) ls cs') (hfs : os + min ls ld ≤ cs.length) (hfd : od + min ls ld ≤ cs.length) (h1 : cs.all (·.oneCell') = true)
    (hc : over cs.toArray od ((cs.drop os).take (min ls ld)) = cells')
    (h : TO P r n ds S0 w0 G ops Q rest (own b cells' tt :: R) (put f d (.int .i64 (min ls ld : Nat)))) :
    TO P r n ds S0 w0 G ops Q (⟨d, .call ⟨.builtin .copy, #[x, y], #[t, u]⟩, ty, pos, aft, none⟩ :: rest) (own b cs.toArray tt :: R) f := fun w hw => by
  have hw' : Region.wanted ⟨d, .call ⟨.builtin .copy, #[x, y], #[t, u]⟩, ty, pos, aft, none⟩ (yielded ops (act n f ds).tmps) = true := rfl
  simp only [wpL, hw', if_true]
  refine ⟨fun _ _ => trivial, ?_⟩
  obtain ⟨S1, hlt, hA, hX, hj⟩ := St.open_ (A := [own b cs.toArray tt]) (R := R) hw
  obtain ⟨hb, hheap⟩ := seps_one hA
  have hlen : ((cs.drop os).take (min ls ld)).length = min ls ld := by simp; omega
  have hone : ∀ u ∈ (cs.drop os).take (min ls ld), u.oneCell' = true := fun u hu => List.all_eq_true.1 h1 u (List.mem_of_mem_drop (List.mem_of_mem_take hu))
  obtain ⟨w', hr, s1, s2, s3, s4, s5, s6⟩ := run_storeCells (P := P) (b := b) (t := tt) (fr := (0, 0)) od ((cs.drop os).take (min ls ld)) 0 w cs.toArray hheap (.inl (Nat.le_refl _)) (by rw [hlen]; simpa using hfd) hone
  have hf := run_firstCells_some (P := P) w 1 (min ls ld) ⟨b, os, none⟩ ls cs' ((cs.drop os).take (min ls ld)) (by rw [hlen]; omega) (fun j v hj' => by
    rw [add_plain, cell_own hheap]
    rw [List.getElem?_take] at hj'
    split at hj'
    · rw [List.getElem?_drop] at hj'; simpa using hj'
    · cases hj')
  rw [Oper.semAt_eq _ _ _ (fun c h => by cases h), act_eval]
  have he : (execOp (ev n f) ⟨d, .call ⟨.builtin .copy, #[x, y], #[t, u]⟩, ty, pos, aft, none⟩).run P w = .ok (.value (.int .i64 (min ls ld : Nat))) w' := by
    have hmin : Nat.min ls ld = min ls ld := rfl
    simp only [execOp, resolve, Sem.run_bind, Sem.run_pure, Result.andThen_ok, invoke, builtin]
    simp [hx, hy, Builtin.copy_, run_underlying ht, Builtin.lenOf, hs, hmin, hf, hr, goInt]
  rw [he, Oper.uponIn_value, act_put]
  refine h w' (hj w' [own b cells' tt] ⟨by rw [s1]; exact Nat.le_refl _, fun q hq hn => s2 q (fun e => hn (e ▸ hb)), s4, s5, s6⟩ (one_seps ⟨.inl hb, ?_⟩))
  rw [s3, Nat.add_zero, hc]
end
end Go.TL
end
section
/- The digest as the program computes it, in plain Lean; cells of words. No program is named here. -/
set_option linter.unusedVariables false
set_option linter.unusedSimpArgs false
namespace Go.TL
def mixedOf (x : UInt32) (l : List Int) : UInt32 := l.foldl (fun o n => o ^^^ rotr x n.toNat) 0
theorem mixedOf_snoc (x : UInt32) (l : List Int) (n : Int) : mixedOf x (l ++ [n]) = mixedOf x l ^^^ rotr x n.toNat := by simp [mixedOf]
theorem mixedOf_step {x : UInt32} {l : List Int} {k : Nat} (hk : k < l.length) : mixedOf x (l.take k) ^^^ rotr x (l[k]).toNat = mixedOf x (l.take (k + 1)) := by rw [← take_snoc hk, mixedOf_snoc]
theorem mixed3 (x : UInt32) (a b c : Nat) : mixedOf x [(a : Int), (b : Int), (c : Int)] = rotr x a ^^^ rotr x b ^^^ rotr x c := by simp [mixedOf]
theorem mixed2 (x : UInt32) (a b : Nat) : mixedOf x [(a : Int), (b : Int)] = rotr x a ^^^ rotr x b := by simp [mixedOf]
theorem mixed_sx (x : UInt32) : mixedOf x [7, 18] ^^^ x >>> UInt32.ofNat 3 = sx x := by
  have := mixed2 x 7 18
  simp only [sx, ← this]; rfl
theorem mixed_sy (x : UInt32) : mixedOf x [17, 19] ^^^ x >>> UInt32.ofNat 10 = sy x := by
  have := mixed2 x 17 19
  simp only [sy, ← this]; rfl
theorem wrap_negu {n : Nat} (h0 : 0 < n) (h : n < 32) : IntKind.u64.wrap (0 - (n : Int)) = ((18446744073709551616 - n : Nat) : Int) := by rw [wrap_u64]; omega
theorem and31 {n : Nat} (h0 : 0 < n) (h : n < 32) : bits .and .u64 ((18446744073709551616 - n : Nat) : Int) 31 = ((32 - n : Nat) : Int) := by
  rw [show (31 : Int) = ((31 : Nat) : Int) from rfl, u64_and_nat _ _ (by omega) (by omega)]
  have := Nat.and_two_pow_sub_one_eq_mod (18446744073709551616 - n) 5
  rw [show 2 ^ 5 - 1 = 31 from rfl, show 2 ^ 5 = 32 from rfl] at this
  rw [this]
  congr 1
  omega
theorem eW_len (l : List UInt32) : (l.flatMap eW).length = l.length := by rw [flatMap_len (e := eW) (sz := 1) (fun _ => rfl), Nat.mul_one]
theorem getw {l : List UInt32} {rest : List Value} {k : Nat} (hk : k < l.length) : (l.flatMap eW ++ rest)[k]? = some (.int .u32 ((l[k]'hk).toNat : Int)) := by
  rw [List.getElem?_append_left (by rw [eW_len]; exact hk)]
  induction l generalizing k with
  | nil => simp at hk
  | cons x l ih =>
    cases k with
    | zero => simp [eW]
    | succ k => simpa [eW] using ih (k := k) (by simpa using hk)
theorem getw' {l : List UInt32} {k : Nat} (hk : k < l.length) : (l.flatMap eW)[k]? = some (.int .u32 ((l[k]'hk).toNat : Int)) := by
  have := getw (rest := []) hk
  simpa using this
theorem over_snoc {l : List UInt32} {m k : Nat} {z : Value} {v : UInt32} (h : l.length = k) (hk : k < m) :
    over (l.flatMap eW ++ List.replicate (m - k) z).toArray k [.int .u32 (v.toNat : Int)] = ((l ++ [v]).flatMap eW ++ List.replicate (m - (k + 1)) z).toArray := by
  unfold over
  congr 1
  have hl : (l.flatMap eW).length = k := by rw [eW_len, h]
  obtain ⟨j, rfl⟩ : ∃ j, m = k + 1 + j := ⟨m - (k + 1), by omega⟩
  rw [show k + 1 + j - k = j + 1 by omega, show k + 1 + j - (k + 1) = j by omega, List.replicate_succ]
  simp [List.drop_append, hl, eW]
theorem flat_step {l : List Bytes} {k : Nat} (hk : k < l.length) : (l.take (k + 1)).flatten.length = (l.take k).flatten.length + (l[k]'hk).length ∧ (l.take (k + 1)).flatten.length ≤ l.flatten.length := by
  refine ⟨by rw [← take_snoc hk, List.flatten_append, List.length_append]; simp, ?_⟩
  have := List.take_append_drop (k + 1) l
  have h2 : l.flatten.length = ((l.take (k + 1)) ++ l.drop (k + 1)).flatten.length := by rw [this]
  rw [h2, List.flatten_append, List.length_append]; omega
theorem flat_cons {l : List Bytes} (h : 1 ≤ l.length) : l[0]'(by omega) ++ ((l.take l.length).drop 1).flatten = l.flatten := by
  cases l with
  | nil => simp at h
  | cons a l => simp
theorem flat_step2 {l : List Bytes} {k : Nat} (h1 : 1 ≤ l.length) (hk : k < ((l.take l.length).drop 1).length) : (l[0]'(by omega)).length + (((l.take l.length).drop 1).take k).flatten.length + (((l.take l.length).drop 1)[k]'hk).length ≤ l.flatten.length := by
  have h2 := flat_step hk
  have h3 := congrArg List.length (flat_cons h1)
  rw [List.length_append] at h3
  omega
theorem one_flat {l : List Bytes} (h : l.length = 1) : l.flatten = l[0]'(by omega) := by
  match l, h with
  | [a], _ => simp
theorem leafOf_ne (s : Bytes) : leafOf s ≠ [] := fun h => by have := leafOf_len s; rw [h] at this; simp at this
theorem sched_wext {b : Bytes} {wd : List UInt32} {k : Nat} (h : wext (64 - k) wd = sched b) (hk : k = 64) : wd = sched b := by subst hk; exact h
def h8C (v : H8) : Array Value := #[.int .u32 v.a.toNat, .int .u32 v.b.toNat, .int .u32 v.c.toNat, .int .u32 v.d.toNat, .int .u32 v.e.toNat, .int .u32 v.f.toNat, .int .u32 v.g.toNat, .int .u32 v.h.toNat]
theorem h8C_l (v : H8) : h8C v = (v.l.flatMap eW).toArray := rfl
theorem h8C_at (v : H8) {i : Nat} (hi : i < 8) : (h8C v)[i]? = some (.int .u32 ((v.l[i]'(by rw [H8.len]; exact hi)).toNat : Int)) := by
  rw [h8C_l, List.getElem?_toArray]
  exact getw' (by rw [H8.len]; exact hi)
theorem rnd_mixed (v : H8) (k w : UInt32) : rnd v (k, w) = ⟨v.h + mixedOf v.e [6, 11, 25] + (v.e &&& v.f ^^^ ~~~v.e &&& v.g) + k + w + (mixedOf v.a [2, 13, 22] + (v.a &&& v.b ^^^ v.a &&& v.c ^^^ v.b &&& v.c)), v.a, v.b, v.c, v.d + (v.h + mixedOf v.e [6, 11, 25] + (v.e &&& v.f ^^^ ~~~v.e &&& v.g) + k + w), v.e, v.f, v.g⟩ := by
  have h1 := mixed3 v.e 6 11 25
  have h2 := mixed3 v.a 2 13 22
  simp only [rnd, rt, ru, ← h1, ← h2]; rfl
def roundC : Array Value := (shaK.flatMap eW).toArray
theorem roundC_size : roundC.size = 64 := by rw [roundC, List.size_toArray, eW_len, shaK_len]
theorem roundC_at {k : Nat} (hk : k < 64) : roundC[k]? = some (.int .u32 ((shaK[k]'(by rw [shaK_len]; exact hk)).toNat : Int)) := by
  have := getw' (l := shaK) (k := k) (by rw [shaK_len]; exact hk)
  simpa [roundC] using this
def mixL8 (h u : H8) (k : Nat) : List UInt32 := (h.add u).l.take k ++ h.l.drop k
theorem mixL8_len (h u : H8) {k : Nat} (hk : k ≤ 8) : (mixL8 h u k).length = 8 := by
  simp only [mixL8, List.length_append, List.length_take, List.length_drop, H8.len]; omega
theorem mixL8_at {h u : H8} {k : Nat} (hk : k < 8) : ((mixL8 h u k).flatMap eW)[k]? = some (.int .u32 ((h.l[k]'(by rw [H8.len]; exact hk)).toNat : Int)) := by
  rw [getw' (by rw [mixL8_len h u (by omega)]; exact hk)]
  congr 4
  simp only [mixL8]
  rw [List.getElem_append_right (by simp [H8.len]; omega)]
  simp [H8.len, Nat.min_eq_left (Nat.le_of_lt hk)]
theorem mixL8_over {h u : H8} {k : Nat} (hk : k < 8) : over ((mixL8 h u k).flatMap eW).toArray k [.int .u32 ((h.l[k]'(by rw [H8.len]; exact hk) + u.l[k]'(by rw [H8.len]; exact hk)).toNat : Int)] = ((mixL8 h u (k + 1)).flatMap eW).toArray := by
  have e1 : (mixL8 h u k).flatMap eW = ((h.add u).l.take k).flatMap eW ++ (h.l.drop k).flatMap eW := by simp [mixL8]
  have e2 : (mixL8 h u (k + 1)).flatMap eW = ((h.add u).l.take (k + 1)).flatMap eW ++ (h.l.drop (k + 1)).flatMap eW := by simp [mixL8]
  rw [e1, e2, ← add_row hk (by rw [H8.len]; exact hk) (by rw [H8.len]; exact hk)]
  have hl : (((h.add u).l.take k).flatMap eW).length = k := by rw [eW_len, List.length_take, H8.len]; omega
  rw [List.drop_eq_getElem_cons (by rw [H8.len]; exact hk), List.flatMap_cons]
  unfold over
  congr 1
  simp [List.take_append, List.drop_append, hl, eW]
theorem mixL8_8 (h u : H8) : ((mixL8 h u 8).flatMap eW).toArray = h8C (h.add u) := rfl
theorem dig_at {h : H8} {i j : Nat} (hi : i < 8) (hj : j < 4) : (h.l.flatMap be4)[4 * i + j]? = some ((h.l[i]'(by rw [H8.len]; exact hi)) >>> UInt32.ofNat (24 - 8 * j)).toUInt8 := by
  have key : ∀ (l : List UInt32) (i : Nat) (hi : i < l.length), (l.flatMap be4)[4 * i + j]? = (be4 l[i])[j]? := by
    intro l
    induction l with
    | nil => intro i hi; simp at hi
    | cons x l ih =>
      intro i hi
      cases i with
      | zero => rw [List.flatMap_cons, List.getElem?_append_left (by rw [be4_len]; omega)]; simp
      | succ i =>
        rw [List.flatMap_cons, List.getElem?_append_right (by rw [be4_len]; omega), be4_len, show 4 * (i + 1) + j - 4 = 4 * i + j by omega]
        have := ih i (by simpa using hi)
        simpa using this
  rw [key _ i (by rw [H8.len]; exact hi)]
  match j, hj with
  | 0, _ => rfl
  | 1, _ => rfl
  | 2, _ => rfl
  | 3, _ => simp [be4]
theorem over_byte {l : Bytes} {m k : Nat} {z : Value} {c : UInt8} (hl : l[k]? = some c) (hk : k < m) :
    over (bytesC (l.take k) ++ List.replicate (m - k) z).toArray k [.int .u8 (c.toNat : Int)] = (bytesC (l.take (k + 1)) ++ List.replicate (m - (k + 1)) z).toArray := by
  obtain ⟨h1, h2⟩ := List.getElem?_eq_some_iff.1 hl
  have e : bytesC (l.take (k + 1)) = bytesC (l.take k) ++ [.int .u8 (c.toNat : Int)] := by rw [← take_snoc h1, bytesC_append, h2]; rfl
  have hlen : (bytesC (l.take k)).length = k := by rw [bytesC_length, List.length_take]; omega
  unfold over
  congr 1
  obtain ⟨j, rfl⟩ : ∃ j, m = k + 1 + j := ⟨m - (k + 1), by omega⟩
  rw [e, show k + 1 + j - k = j + 1 by omega, show k + 1 + j - (k + 1) = j by omega, List.replicate_succ]
  simp [List.take_append, List.drop_append, hlen]
end Go.TL
end
section
/- Slices that are made and filled, for the walks. No program is named here. -/
set_option linter.unusedVariables false
set_option linter.unusedSimpArgs false
namespace Go.TL
section
variable {P : Program} {r : Option Nat} {n : Nat} {ds : List Deferred} {S0 : Nat → Prop} {w0 : World} {G L L' R : List Asn} {f : Env} {Q : Exit → Act → World → Prop} {ops : Array Oper} {rest : List Oper}
  {d : Option Tmp} {ty : TypeId} {pos : String} {aft : Array Edge}
theorem madeCells_one (z : Value) (h : z.cells = #[z]) (n : Nat) : madeCells z.cells n = (List.replicate n z).toArray := by
  apply Array.ext'
  rw [h]
  simp only [madeCells, Array.toList_map]
  apply List.ext_getElem?
  intro i
  by_cases hi : i < n
  · simp [hi, Nat.mod_one]
  · simp [hi]
theorem TO.make {t e k bytes : Nat} {x y : Operand} {z : Value} (hr : TyRow P e 1 bytes) (hz : TyZero P e z) (ht : P.underlying t = some (.slice e)) (hx : ev n f x = .int .i64 (k : Int)) (hy : ev n f y = .int .i64 (k : Int)) (hz1 : z.cells = #[z]) (hsmall : k * bytes ≤ 281474976710656) (hk : k ≤ 16777216)
    (h : ∀ b : Nat, TO P r n ds S0 w0 G ops Q rest (own b (List.replicate k z).toArray e :: L) (put f d (.slice (some ⟨b, 0, none⟩) k k))) :
    TO P r n ds S0 w0 G ops Q (⟨d, .makeSlice t x y, ty, pos, aft, none⟩ :: rest) L f := fun w hw => by
  have hw' : Region.wanted ⟨d, .makeSlice t x y, ty, pos, aft, none⟩ (yielded ops (act n f ds).tmps) = true := rfl
  simp only [wpL, hw', if_true]
  refine ⟨fun _ _ => trivial, ?_⟩
  obtain ⟨i, z', hi, hz', hs, hb, _, _⟩ := hr.ex
  have hzz : z' = z := by
    have := hz w
    simp [zeroValue, typeInfo, hi, hz'] at this
    exact this
  subst hzz
  have hby : (i.bytes : Int) * (k : Int) ≤ 281474976710656 := by
    rw [hb]
    have hh : ((k * bytes : Nat) : Int) ≤ 281474976710656 := by omega
    rwa [Int.natCast_mul, Int.mul_comm] at hh
  have hr := run_makeSlice (P := P) w t e i z' ht hi hz' .i64 .i64 (k : Int) (k : Int) (by omega) (Int.le_refl _) (by rw [hs, Int.toNat_natCast, Nat.mul_one]; exact hk) hby (by omega)
  rw [Oper.semAt_eq _ _ _ (fun c h => by cases h), act_eval]
  have he : (execOp (ev n f) ⟨d, .makeSlice t x y, ty, pos, aft, none⟩).run P w = .ok (.value (.slice (some ⟨w.heap.size, 0, none⟩) k k)) { w with heap := w.heap.push (.cells (List.replicate k z').toArray e) } := by
    simp only [execOp, hx, hy, Sem.run_bind, hr, Result.andThen_ok, Sem.run_pure, Int.toNat_natCast, hs, Nat.mul_one, madeCells_one z' hz1, World.alloc]
  rw [he, Oper.uponIn_value, act_put]
  exact h w.heap.size _ (hw.new _ e)
end
def keysN (n : Nat) : List Bytes := (List.range n).map fun (i : Nat) => keyB (i : Int)
theorem keysN_succ (n : Nat) : keysN (n + 1) = keysN n ++ [keyB (n : Int)] := by simp [keysN, List.range_succ]
theorem keysN_len (n : Nat) : (keysN n).length = n := by simp [keysN]
theorem over_rep {a z : Value} {k m : Nat} (h : k < m) : over (List.replicate k a ++ List.replicate (m - k) z).toArray k [a] = (List.replicate (k + 1) a ++ List.replicate (m - (k + 1)) z).toArray := by
  unfold over
  congr 1
  obtain ⟨j, rfl⟩ : ∃ j, m = k + 1 + j := ⟨m - (k + 1), by omega⟩
  rw [show k + 1 + j - k = j + 1 by omega, show k + 1 + j - (k + 1) = j by omega, List.replicate_succ (n := j), List.replicate_succ' (n := k)]
  simp [List.drop_append]
end Go.TL
end
section
/- Why a wish is not valid, in plain Lean. No program is named here. -/
set_option linter.unusedVariables false
set_option linter.unusedSimpArgs false
namespace Go.TL
/-- The first place below n of a kind. -/
def firstIx (p : Nat → Bool) : Nat → Option Nat
  | 0 => none
  | n + 1 => match firstIx p n with
    | some i => some i
    | none => if p n = true then some n else none
def okTo (p : Nat → Bool) (k : Nat) : Prop := ∀ i, i < k → p i = false
theorem okTo.zero (p : Nat → Bool) : okTo p 0 := fun i h => absurd h (by omega)
theorem okTo.next {p : Nat → Bool} {k : Nat} (h : okTo p k) (hk : p k = false) : okTo p (k + 1) := fun i hi => by
  rcases Nat.lt_or_ge i k with h' | h'
  · exact h i h'
  · rw [show i = k by omega]; exact hk
theorem firstIx_none {p : Nat → Bool} : ∀ {n : Nat}, okTo p n → firstIx p n = none
  | 0, _ => rfl
  | n + 1, h => by
    rw [firstIx, firstIx_none (n := n) fun i hi => h i (by omega)]
    simp [h n (by omega)]
theorem firstIx_some {p : Nat → Bool} {k : Nat} (h : okTo p k) (hk : p k = true) : ∀ {n : Nat}, k < n → firstIx p n = some k
  | n + 1, hn => by
    rw [firstIx]
    rcases Nat.lt_or_ge k n with h' | h'
    · rw [firstIx_some h hk h']
    · rw [show n = k by omega, firstIx_none h]
      simp [hk]
theorem firstIx_none_iff {p : Nat → Bool} : ∀ {n : Nat}, firstIx p n = none ↔ okTo p n
  | 0 => ⟨fun _ => okTo.zero p, fun _ => rfl⟩
  | n + 1 => by
    refine ⟨fun h => ?_, firstIx_none⟩
    rw [firstIx] at h
    cases e : firstIx p n with
    | some i => rw [e] at h; cases h
    | none =>
      rw [e] at h
      have h1 := (firstIx_none_iff (n := n)).1 e
      refine h1.next ?_
      cases hp : p n with
      | false => rfl
      | true => simp [hp] at h
/-- Who would have to grant the next proxy, after so many. -/
def whoAt (h : Int) (l : List Proxy) : Nat → Int
  | 0 => h
  | k + 1 => (l.getD k proxy0).to
def inScope (rlo rhi slo shi : Int) (p : Proxy) : Bool := scopeOk rlo rhi slo shi p.rlo p.rhi p.slo p.shi
def formP (l : List Proxy) (i : Nat) : Bool := !(proxyOk (l.getD i proxy0))
def chainP (h : Int) (l : List Proxy) (i : Nat) : Bool := !((l.getD i proxy0).frm == whoAt h l i)
def scopeP (l : List Proxy) (i : Nat) : Bool := decide (0 < i) && !(inScope (l.getD i proxy0).rlo (l.getD i proxy0).rhi (l.getD i proxy0).slo (l.getD i proxy0).shi (l.getD (i - 1) proxy0))
def sealBadP (keys : List Bytes) (p : Proxy) : Bool := decide ((keys.length : Int) ≤ p.frm) || !(p.sig == sealOf (keys.getD p.frm.toNat []) (proxyText p))
def sealBadW (keys : List Bytes) (w : Wish) : Bool := decide ((keys.length : Int) ≤ w.signer) || !(w.sig == sealOf (keys.getD w.signer.toNat []) (wishText w))
def sealP (keys : List Bytes) (l : List Proxy) (i : Nat) : Bool := sealBadP keys (l.getD i proxy0)
def keyP (keys : List Bytes) (i : Nat) : Bool := !((keys.getD i []).length == 32)
def oneOr (o : Option Nat) (r : Int) (k : Int × Int) : Int × Int := match o with
  | some i => (r, (i : Int))
  | none => k
def whyOf (keys : List Bytes) (w : Wish) (l : List Proxy) (n t : Int) : Int × Int :=
  if 64 < keys.length ∨ wishOk w = false ∨ 4 < l.length ∨ firstIx (keyP keys) keys.length ≠ none then (1, -1) else
  oneOr (firstIx (formP l) l.length) 1 <|
  if t < w.slo ∨ w.shi ≤ t then (2, -1) else
  if n < w.rlo ∨ w.rhi ≤ n then (3, -1) else
  oneOr (firstIx (chainP w.holder l) l.length) 4 <|
  if w.signer ≠ whoAt w.holder l l.length then (4, -1) else
  oneOr (firstIx (scopeP l) l.length) 5 <|
  if 0 < l.length ∧ inScope w.rlo w.rhi w.slo w.shi (l.getD (l.length - 1) proxy0) = false then (5, -1) else
  oneOr (firstIx (sealP keys l) l.length) 6 <|
  if sealBadW keys w = true then (6, -1) else (0, -1)
theorem proxyOk_frm {p : Proxy} (h : proxyOk p = true) : 0 ≤ p.frm ∧ p.frm ≤ 63 := by
  simp only [proxyOk, within, Bool.and_eq_true, decide_eq_true_eq] at h
  exact h.1
theorem wishOk_signer {w : Wish} (h : wishOk w = true) : 0 ≤ w.signer ∧ w.signer ≤ 63 := by
  simp only [wishOk, within, Bool.and_eq_true, decide_eq_true_eq] at h
  exact h.1
theorem keys_len {ks : List Bytes} (h : firstIx (keyP ks) ks.length = none) (i : Nat) (hi : i < ks.length) : (ks[i]'hi).length = 32 := by
  have := firstIx_none_iff.1 h i hi
  rw [keyP, getD_get _ hi] at this
  simpa using this
theorem forms_frm {l : List Proxy} (h : firstIx (formP l) l.length = none) (i : Nat) (hi : i < l.length) : 0 ≤ (l[i]'hi).frm ∧ (l[i]'hi).frm ≤ 63 := by
  have := firstIx_none_iff.1 h i hi
  rw [formP, getD_get _ hi] at this
  exact proxyOk_frm (by simpa using this)
theorem tup2 {x : Int × Int} {a b : Int} (h : x = (a, b)) : Value.tuple #[.int .i64 x.1, .int .i64 x.2] = .tuple #[.int .i64 a, .int .i64 b] := by subst h; rfl
theorem oneOr_none (r : Int) (k : Int × Int) : oneOr none r k = k := rfl
theorem oneOr_some (i : Nat) (r : Int) (k : Int × Int) : oneOr (some i) r k = (r, (i : Int)) := rfl
def validOf (keys : List Bytes) (w : Wish) (l : List Proxy) (n t : Int) : Bool := (whyOf keys w l n t).1 == 0
end Go.TL
end
section
/- Wishes, for the walks of the program's own functions. No program is named here. -/
set_option linter.unusedVariables false
set_option linter.unusedSimpArgs false
namespace Go.TL
theorem vint_ne (z : Nat) : vint z ≠ [] := List.length_pos_iff.1 (vint_len z).1
theorem puts_ne {n : Int} {l : List Int} (h1 : -4611686018427387903 ≤ n) (h2 : n ≤ 4611686018427387903) : puts (n :: l) ≠ [] := by
  intro h
  simp only [puts, List.flatMap_cons, List.append_eq_nil_iff] at h
  have := h.1
  rw [putInt, if_pos ⟨h1, h2⟩] at this
  exact vint_ne _ this
theorem wishText_ne (w : Wish) : wishText w ≠ [] := puts_ne (by decide) (by decide)
theorem proxyText_ne (p : Proxy) : proxyText p ≠ [] := puts_ne (by decide) (by decide)
theorem puts3_ne (a b : Int) : puts [3, a, b] ≠ [] := puts_ne (by decide) (by decide)
def ixInt : Option Nat → Int
  | some i => (i : Int)
  | none => -1
theorem ixInt_neg {o : Option Nat} : ixInt o < 0 ↔ o = none := by
  cases o with
  | none => simp [ixInt]
  | some i => simp only [ixInt, reduceCtorEq, iff_false]; omega
theorem formP_all {l : List Proxy} : firstIx (formP l) l.length = none ↔ l.all proxyOk = true := by
  rw [firstIx_none_iff, List.all_eq_true]
  constructor
  · intro h x hx
    obtain ⟨i, hi, rfl⟩ := List.getElem_of_mem hx
    have := h i hi
    rw [formP, getD_get _ hi] at this
    simpa using this
  · intro h i hi
    rw [formP, getD_get _ hi]
    simpa using h _ (List.getElem_mem hi)
theorem beq_nat32 (n : Nat) : (n == 32) = ((n : Int) == 32) := by
  rw [Bool.eq_iff_iff]; simp; omega
theorem formOk_eq {l : List Proxy} : l.all proxyOk = decide (ixInt (firstIx (formP l) l.length) < 0) := by
  rw [Bool.eq_iff_iff, decide_eq_true_eq, ixInt_neg, formP_all]
def isOf (w : Wish) (l : List Proxy) (nu t r i : Int) : Bool := (whyOf (keysN 10) w l nu t).1 == r && ((whyOf (keysN 10) w l nu t).2 == i && (validOf (keysN 10) w l nu t == (r == 0)))
theorem keyB_len (h : Int) : (keyB h).length = 32 := by simp [keyB]
def sw (t : Int) : Wish := (signW (keyB 2) ⟨2, 1, 1100, 1200, 3, 7, 150, t, []⟩).1
def sp (t : Int) : Proxy := (signP (keyB 1) ⟨1, 2, 1000, 2000, 100, t, []⟩).1
theorem isOf_of_why {w : Wish} {l : List Proxy} {nu t r i : Int} (h : whyOf (keysN 10) w l nu t = (r, i)) : isOf w l nu t r i = true := by
  simp [isOf, validOf, h]
def perEl (h : Int) (l : List Proxy) (k : Nat) : List Value := [.int .i64 (if k < l.length then (k : Int) else -1), .int .i64 (whoAt h l k)]
theorem perEl_lt {h : Int} {l : List Proxy} {k : Nat} (hk : k < l.length) : perEl h l k = [.int .i64 (k : Int), .int .i64 (whoAt h l k)] := by rw [perEl, if_pos hk]
theorem perEl_end {h : Int} {l : List Proxy} {k : Nat} (hk : k = l.length) : perEl h l k = [.int .i64 (-1), .int .i64 (whoAt h l k)] := by rw [perEl, if_neg (by omega)]
theorem whoAt_succ {h : Int} {l : List Proxy} {k : Nat} (hk : k < l.length) : whoAt h l (k + 1) = (l[k]'hk).to := by rw [whoAt, getD_get _ hk]
def lastScope (w : Wish) (l : List Proxy) : Bool := decide (0 < l.length) && !(inScope w.rlo w.rhi w.slo w.shi (l.getD (l.length - 1) proxy0))
def scopeR (w : Wish) (l : List Proxy) : Int × Bool := match firstIx (scopeP l) l.length with
  | some i => ((i : Int), true)
  | none => (-1, lastScope w l)
theorem scopeR_some {w : Wish} {l : List Proxy} {k : Nat} (h : okTo (scopeP l) k) (hk : scopeP l k = true) (hn : k < l.length) : scopeR w l = ((k : Int), true) := by rw [scopeR, firstIx_some h hk hn]
theorem scopeR_none {w : Wish} {l : List Proxy} (h : okTo (scopeP l) l.length) : scopeR w l = (-1, lastScope w l) := by rw [scopeR, firstIx_none h]
theorem scope_why (w : Wish) (l : List Proxy) (k : Int × Int) : (oneOr (firstIx (scopeP l) l.length) 5 <| if 0 < l.length ∧ inScope w.rlo w.rhi w.slo w.shi (l.getD (l.length - 1) proxy0) = false then (5, -1) else k) = if (scopeR w l).2 = true then (5, (scopeR w l).1) else k := by
  unfold scopeR
  cases h : firstIx (scopeP l) l.length with
  | some i => simp [oneOr]
  | none =>
    simp only [oneOr, lastScope]
    by_cases h1 : 0 < l.length
    · by_cases h2 : inScope w.rlo w.rhi w.slo w.shi (l.getD (l.length - 1) proxy0) = true
      · simp only [h2]; simp
      · have h3 : inScope w.rlo w.rhi w.slo w.shi (l.getD (l.length - 1) proxy0) = false := by simpa using h2
        simp only [h3]; simp [h1]
    · simp [h1]
theorem oneOr_ix {o : Option Nat} {r : Int} {k : Int × Int} (h : 0 ≤ ixInt o) : oneOr o r k = (r, ixInt o) := by
  cases o with
  | none => simp [ixInt] at h
  | some i => rfl
theorem wishOk_bounds {w : Wish} (h : wishOk w = true) : (0 ≤ w.rlo ∧ w.rlo < w.rhi ∧ w.rhi ≤ 100000000) ∧ (0 ≤ w.slo ∧ w.slo < w.shi ∧ w.shi ≤ 10000001) := by
  simp only [wishOk, rangeOk, spellOk, Bool.and_eq_true, decide_eq_true_eq] at h
  obtain ⟨_, _, ⟨a, b, c⟩, _, _, d, e, f⟩ := h
  exact ⟨⟨a, b, c⟩, d, e, f⟩
def StopC (w : Wish) (l : List Proxy) (y : Int) : Prop := (∃ k, k < l.length ∧ okTo (chainP w.holder l) k ∧ chainP w.holder l k = true ∧ y = (k : Int)) ∨ (okTo (chainP w.holder l) l.length ∧ w.signer ≠ whoAt w.holder l l.length ∧ y = -1)
theorem chain_next1 {p : Nat → Bool} {k n : Nat} (h : okTo p (min k n)) (hk : k < n) (hp : p k = false) : okTo p (min (k + 1) n) := by
  rw [Nat.min_eq_left (by omega)] at h
  rw [Nat.min_eq_left (by omega)]
  exact h.next hp
theorem chain_next2 {p : Nat → Bool} {k n : Nat} (h : okTo p (min k n)) (hk : n ≤ k) : okTo p (min (k + 1) n) := by
  rw [Nat.min_eq_right hk] at h
  rwa [Nat.min_eq_right (by omega)]
def encText (w : Wish) (l : List Proxy) : Bytes := puts [(l.length : Int)] ++ l.flatMap (fun p => proxyText p ++ p.sig) ++ wishText w ++ w.sig
def encode (w : Wish) (l : List Proxy) : Bytes × Int := if formedOk w l = true ∧ w.sig.length = 32 ∧ l.all (fun p => p.sig.length == 32) = true then (encText w l, 0) else ([], 150)
theorem sigs_ok {l : List Proxy} : firstIx (fun i => !((l.getD i proxy0).sig.length == 32)) l.length = none ↔ l.all (fun p => p.sig.length == 32) = true := by
  rw [firstIx_none_iff, List.all_eq_true]
  constructor
  · intro h x hx
    obtain ⟨i, hi, rfl⟩ := List.getElem_of_mem hx
    have := h i hi
    dsimp only at this
    rw [getD_get _ hi] at this
    simpa using this
  · intro h i hi
    show (!((l.getD i proxy0).sig.length == 32)) = false
    rw [getD_get _ hi]
    simpa using h _ (List.getElem_mem hi)
theorem proxyText_len (p : Proxy) : (proxyText p).length ≤ 70 := Nat.le_trans (puts_length _) (by simp)
theorem wishText_len (w : Wish) : (wishText w).length ≤ 90 := Nat.le_trans (puts_length _) (by simp)
theorem seals_len : ∀ {l : List Proxy}, l.all (fun p => p.sig.length == 32) = true → (l.flatMap (fun p => proxyText p ++ p.sig)).length ≤ 102 * l.length
  | [], _ => by simp
  | p :: l, h => by
    simp only [List.all_cons, Bool.and_eq_true, beq_iff_eq] at h
    have h1 := seals_len h.2
    have h2 := proxyText_len p
    rw [List.flatMap_cons, List.length_append, List.length_append, List.length_cons]
    omega
theorem all_take {l : List Proxy} {q : Proxy → Bool} (h : l.all q = true) (k : Nat) : (l.take k).all q = true := by
  rw [List.all_eq_true] at h ⊢
  exact fun x hx => h x (List.mem_of_mem_take hx)
theorem all_at {l : List Proxy} (h : l.all (fun p => p.sig.length == 32) = true) {k : Nat} (hk : k < l.length) : (l[k]'hk).sig.length = 32 := by
  rw [List.all_eq_true] at h
  simpa using h _ (List.getElem_mem hk)
theorem formedOk_len {w : Wish} {l : List Proxy} (h : formedOk w l = true) : l.length ≤ 4 := by
  simp only [formedOk, Bool.and_eq_true, decide_eq_true_eq] at h
  exact h.2.1
section
variable {P : Program} {G L : List Asn} {d : Option Tmp} {ty : TypeId} {pos : String} {aft : Array Edge} {ρ : Operand → Value} {g : Option (Nat × Bool)} {x y : Operand} {t t' : TypeId} {k : IntKind} {a b : Int}
theorem rd_neq_false (hx : ρ x = .int k a) (hy : ρ y = .int k b) (h : a = b) : Reads P G L ⟨d, .binOp .neq t x y t', ty, pos, aft, g⟩ ρ (.bool false) := by
  have := rd_neq (P := P) (G := G) (L := L) (d := d) (ty := ty) (pos := pos) (aft := aft) (g := g) (t := t) (t' := t') hx hy
  rwa [show (a != b) = false by simp [h]] at this
theorem Has.nilslc {α : Type} {e : α → List Value} {sz : Nat} {A : Option Addr} : Has G L (slc e sz A []) := fun _ _ _ _ _ => .inl rfl
theorem rd_eqb {a b : Bool} (ht : P.underlying t = some .bool) (hx : ρ x = .bool a) (hy : ρ y = .bool b) : Reads P G L ⟨d, .binOp .eql t x y t', ty, pos, aft, g⟩ ρ (.bool (a == b)) := .of (fun c h => by cases h) fun w => by
  have hg : (eqGuard .eql t x y (.bool a) (.bool b)).run P w = .ok () w := rfl
  have h := run_equalIn_bool' (P := P) w 9999 t a b ht
  simp only [execOp, hx, hy, binOp]
  simp [Op.equal, Op.maxDepth, h, hg]
theorem rd_shr8 {a : Nat} {c : Int} (hx : ρ x = .int .u8 (a : Int)) (hy : ρ y = .int k c) (hc : c = 4) (ha : a < 256) : Reads P G L ⟨d, .binOp .shr t x y t', ty, pos, aft, g⟩ ρ (.int .u8 ((a / 16 : Nat) : Int)) := rd_shr hx hy (by omega) (by
  subst hc
  rw [show min (4 : Int).toNat IntKind.u8.bits = 4 from rfl, Int.fdiv_eq_ediv_of_nonneg _ (by decide)]
  simp only [show (2 : Int) ^ 4 = 16 from rfl]
  omega)
theorem rd_and15 {a : Nat} {c : Int} (hx : ρ x = .int .u8 (a : Int)) (hy : ρ y = .int .u8 c) (hc : c = 15) (ha : a < 256) : Reads P G L ⟨d, .binOp .and t x y t', ty, pos, aft, g⟩ ρ (.int .u8 ((a % 16 : Nat) : Int)) := rd_and hx hy (by
  subst hc
  rw [show (15 : Int) = ((15 : Nat) : Int) from rfl, u8_and_nat _ _ ha (by omega)]
  exact congrArg _ (Nat.and_two_pow_sub_one_eq_mod a 4))
theorem hexs_get : ∀ j (h : j < 16), hexs[j]'h = hexCh j := by decide
theorem rd_hexs {i : Int} {j : Nat} (ht : P.underlying t = some .string) (hx : ρ x = .string (str hexs)) (hy : ρ y = .int k i) (hj : j < 16) (hi : i = (j : Int) := by rfl) :
    Reads P G L ⟨d, .index t x y, ty, pos, aft, g⟩ ρ (.int .u8 ((hexCh j).toNat : Int)) := by
  have := rd_idxs (P := P) (G := G) (L := L) (d := d) (ty := ty) (pos := pos) (aft := aft) (g := g) ht hx hy hi (show j < hexs.length from hj)
  have e : hexs[j]'(show j < hexs.length from hj) = hexCh j := hexs_get j hj
  rw [e] at this
  exact this
theorem rd_geq_true (hx : ρ x = .int k a) (hy : ρ y = .int k b) (h : b ≤ a) : Reads P G L ⟨d, .binOp .geq t x y t', ty, pos, aft, g⟩ ρ (.bool true) := by
  have := rd_geq (P := P) (G := G) (L := L) (d := d) (ty := ty) (pos := pos) (aft := aft) (g := g) (t := t) (t' := t') hx hy
  rwa [decide_eq_true h] at this
theorem rd_geq_false (hx : ρ x = .int k a) (hy : ρ y = .int k b) (h : ¬ b ≤ a) : Reads P G L ⟨d, .binOp .geq t x y t', ty, pos, aft, g⟩ ρ (.bool false) := by
  have := rd_geq (P := P) (G := G) (L := L) (d := d) (ty := ty) (pos := pos) (aft := aft) (g := g) (t := t) (t' := t') hx hy
  rwa [decide_eq_false h] at this
theorem rd_lss_true (hx : ρ x = .int k a) (hy : ρ y = .int k b) (h : a < b) : Reads P G L ⟨d, .binOp .lss t x y t', ty, pos, aft, g⟩ ρ (.bool true) := by
  have := rd_lss (P := P) (G := G) (L := L) (d := d) (ty := ty) (pos := pos) (aft := aft) (g := g) (t := t) (t' := t') hx hy
  rwa [decide_eq_true h] at this
theorem rd_lss_false (hx : ρ x = .int k a) (hy : ρ y = .int k b) (h : ¬ a < b) : Reads P G L ⟨d, .binOp .lss t x y t', ty, pos, aft, g⟩ ρ (.bool false) := by
  have := rd_lss (P := P) (G := G) (L := L) (d := d) (ty := ty) (pos := pos) (aft := aft) (g := g) (t := t) (t' := t') hx hy
  rwa [decide_eq_false h] at this
end
end Go.TL
end
section
/- The wishes that integers determine, and the strings that are hashed, in plain Lean. No program is named here. -/
set_option linter.unusedVariables false
set_option linter.unusedSimpArgs false
namespace Go.TL
structure Five where
  (a b c d e : Int)
def fiveL (y : Five) : List Value := [.int .i64 y.a, .int .i64 y.b, .int .i64 y.c, .int .i64 y.d, .int .i64 y.e]
structure Nums where
  (holder r0 r1 s0 s1 carrier serial : Int)
  chain : List Five
def I64R (c : Int) : Prop := -9223372036854775808 ≤ c ∧ c ≤ 9223372036854775807
def FiveOk (y : Five) : Prop := I64R y.a ∧ I64R y.b ∧ I64R y.c ∧ I64R y.d ∧ I64R y.e
def NumsOk (x : Nums) : Prop := (I64R x.holder ∧ I64R x.r0 ∧ I64R x.r1 ∧ I64R x.s0 ∧ I64R x.s1 ∧ I64R x.carrier ∧ I64R x.serial) ∧ ∀ k (h : k < x.chain.length), FiveOk (x.chain[k]'h)
/-- the state of the loop: who signs next, the range and the spell that are left, the proxies -/
structure MS where
  (who a b c d : Int)
  l : List Proxy
def mnext (m : MS) (y : Five) : Proxy := (signP (keyB m.who) ⟨m.who, (m.who + 1 + pickN y.a 9) % 10, m.a, m.b, m.c, m.d, []⟩).1
def mstep (m : MS) (y : Five) : MS := ⟨(m.who + 1 + pickN y.a 9) % 10, narrowA m.a m.b y.b, narrowB m.a m.b y.b y.c, narrowA m.c m.d y.d, narrowB m.c m.d y.d y.e, m.l ++ [mnext m y]⟩
def mstart (x : Nums) : MS := ⟨pickN x.holder 10, pickN x.r0 10000, pickN x.r0 10000 + 1 + pickN x.r1 1000, pickN x.s0 10000, pickN x.s0 10000 + 1 + pickN x.s1 1000, []⟩
def mrun (x : Nums) (k : Nat) : MS := (x.chain.take k).foldl mstep (mstart x)
def mfin (x : Nums) : MS := mrun x (min 4 x.chain.length)
def madeL (x : Nums) : List Proxy := (mfin x).l
def wishOfM (x : Nums) (m : MS) : Wish := ⟨m.who, pickN x.holder 10, m.a, m.b, pickN x.carrier 8, pickN x.serial 1000, m.c, m.d, []⟩
def madeW (x : Nums) : Wish := (signW (keyB (mfin x).who) (wishOfM x (mfin x))).1
def MOk (m : MS) : Prop := (0 ≤ m.who ∧ m.who ≤ 9) ∧ (0 ≤ m.a ∧ m.a < m.b ∧ m.b ≤ 11000) ∧ (0 ≤ m.c ∧ m.c < m.d ∧ m.d ≤ 11000)
theorem mrun_succ {x : Nums} {k : Nat} (h : k < x.chain.length) : mrun x (k + 1) = mstep (mrun x k) (x.chain[k]'h) := by
  rw [mrun, ← take_snoc h, List.foldl_append]
  rfl
theorem narrow_ok {a b l r : Int} (ha : 0 ≤ a) (hab : a < b) : a ≤ narrowA a b l ∧ narrowA a b l < narrowB a b l r ∧ narrowB a b l r ≤ b := by
  have e1 := pickN_lo (c := l) (n := b - a) (by omega)
  have e2 := pickN_hi (c := l) (n := b - a) (by omega)
  have e3 := pickN_lo (c := r) (n := b - narrowA a b l) (by simp only [narrowA]; omega)
  have e4 := pickN_hi (c := r) (n := b - narrowA a b l) (by simp only [narrowA]; omega)
  simp only [narrowB, narrowA] at *
  omega
theorem mstart_ok (x : Nums) : MOk (mstart x) := by
  have e1 := pickN_lo (c := x.holder) (n := 10) (by decide)
  have e2 := pickN_hi (c := x.holder) (n := 10) (by decide)
  have e3 := pickN_lo (c := x.r0) (n := 10000) (by decide)
  have e4 := pickN_hi (c := x.r0) (n := 10000) (by decide)
  have e5 := pickN_lo (c := x.r1) (n := 1000) (by decide)
  have e6 := pickN_hi (c := x.r1) (n := 1000) (by decide)
  have e7 := pickN_lo (c := x.s0) (n := 10000) (by decide)
  have e8 := pickN_hi (c := x.s0) (n := 10000) (by decide)
  have e9 := pickN_lo (c := x.s1) (n := 1000) (by decide)
  have e0 := pickN_hi (c := x.s1) (n := 1000) (by decide)
  simp only [MOk, mstart]
  omega
theorem mstep_ok {m : MS} (h : MOk m) (y : Five) : MOk (mstep m y) := by
  obtain ⟨⟨h1, h2⟩, ⟨h3, h4, h5⟩, h6, h7, h8⟩ := h
  have e1 := narrow_ok (l := y.b) (r := y.c) h3 h4
  have e2 := narrow_ok (l := y.d) (r := y.e) h6 h7
  simp only [MOk, mstep]
  omega
def bendW (w : Wish) (how n : Int) : Wish :=
  if pickN how 9 = 0 then { w with signer := n } else if pickN how 9 = 1 then { w with holder := n } else if pickN how 9 = 2 then { w with rlo := n } else if pickN how 9 = 3 then { w with rhi := n } else if pickN how 9 = 4 then { w with carrier := n } else
  if pickN how 9 = 5 then { w with serial := n } else if pickN how 9 = 6 then { w with slo := n } else if pickN how 9 = 7 then { w with shi := n } else { w with rhi := w.rhi + 1 }
def bendP (w : Proxy) (how n : Int) : Proxy :=
  if pickN how 7 = 0 then { w with frm := n } else if pickN how 7 = 1 then { w with to := n } else if pickN how 7 = 2 then { w with rlo := n } else if pickN how 7 = 3 then { w with rhi := n } else if pickN how 7 = 4 then { w with slo := n } else
  if pickN how 7 = 5 then { w with shi := n } else { w with rhi := w.rhi + 1 }
def hashed (k c : Bytes) : List Bytes := [0 :: c, 1 :: k ++ leafOf c]
def collQ (x y : Bytes) : Bool := !(x == y) && sha x == sha y
def collB (a b : List Bytes) : Bool := a.any fun x => b.any (collQ x)
theorem collQ_t {x y : Bytes} (h1 : ¬ x = y) (h2 : sha x = sha y) : collQ x y = true := by simp [collQ, h1, h2]
end Go.TL
end
section
/- What a wish that integers determine answers, in plain Lean. No program is named here. -/
set_option linter.unusedVariables false
set_option linter.unusedSimpArgs false
namespace Go.TL
theorem getD_app {α : Type} {l : List α} {p d : α} {i : Nat} (h : i < l.length) : (l ++ [p]).getD i d = l.getD i d := by
  simp [List.getD_eq_getElem?_getD, List.getElem?_append_left h]
theorem getD_end {α : Type} {l : List α} {p d : α} : (l ++ [p]).getD l.length d = p := by
  simp [List.getD_eq_getElem?_getD]
theorem okTo_snoc {P : List Proxy → Nat → Bool} {l : List Proxy} {p : Proxy} (h : okTo (P l) l.length) (h1 : ∀ i, i < l.length → P (l ++ [p]) i = P l i) (h2 : P (l ++ [p]) l.length = false) : okTo (P (l ++ [p])) (l ++ [p]).length := by
  intro i hi
  rw [List.length_append, List.length_cons, List.length_nil] at hi
  rcases Nat.lt_or_ge i l.length with h' | h'
  · rw [h1 i h']; exact h i h'
  · rw [show i = l.length by omega]; exact h2
theorem whoAt_app {h : Int} {l : List Proxy} {p : Proxy} : ∀ {i : Nat}, i ≤ l.length → whoAt h (l ++ [p]) i = whoAt h l i
  | 0, _ => rfl
  | i + 1, hi => by rw [whoAt, whoAt, getD_app (by omega)]
theorem keysN_get {n i : Nat} (h : i < n) : (keysN n).getD i [] = keyB (i : Int) := by
  simp [keysN, List.getD_eq_getElem?_getD, h]
theorem keysN_at {z : Int} {n : Nat} (h0 : 0 ≤ z) (h : z < n) : (keysN n).getD z.toNat [] = keyB z := by
  rw [keysN_get (by omega)]; congr 1; omega
theorem keysN_ok (n : Nat) : firstIx (keyP (keysN n)) (keysN n).length = none := by
  rw [keysN_len]
  exact firstIx_none fun i hi => by rw [keyP, keysN_get hi, keyB_len]; rfl
structure MInv (h : Int) (m : MS) : Prop where
  ok : MOk m
  forms : okTo (formP m.l) m.l.length
  chain : okTo (chainP h m.l) m.l.length
  who : whoAt h m.l m.l.length = m.who
  scope : okTo (scopeP m.l) m.l.length
  last : 0 < m.l.length → inScope m.a m.b m.c m.d (m.l.getD (m.l.length - 1) proxy0) = true
  seals : okTo (sealP (keysN 10) m.l) m.l.length
  sig : ∀ p ∈ m.l, p.sig.length = 32
  nine : ∀ p ∈ m.l, 0 ≤ p.frm ∧ p.frm ≤ 9 ∧ 0 ≤ p.to ∧ p.to ≤ 9 ∧ 0 ≤ p.rhi ∧ p.rhi ≤ 11000
  same : ∀ p ∈ m.l, signP (keyB p.frm) p = (p, 0)
theorem mproxy_ok {m : MS} (h : MOk m) (y : Five) : proxyOk ⟨m.who, (m.who + 1 + pickN y.a 9) % 10, m.a, m.b, m.c, m.d, []⟩ = true := by
  obtain ⟨⟨h1, h2⟩, ⟨h3, h4, h5⟩, h6, h7, h8⟩ := h
  have e1 := pickN_lo (c := y.a) (n := 9) (by decide)
  have e2 := pickN_hi (c := y.a) (n := 9) (by decide)
  simp only [proxyOk, within, rangeOk, spellOk, Bool.and_eq_true, decide_eq_true_eq, bne_iff_ne]
  omega
theorem mnext_eq {m : MS} (h : MOk m) (y : Five) : mnext m y = ⟨m.who, (m.who + 1 + pickN y.a 9) % 10, m.a, m.b, m.c, m.d, sealOf (keyB m.who) (proxyText ⟨m.who, (m.who + 1 + pickN y.a 9) % 10, m.a, m.b, m.c, m.d, []⟩)⟩ := by
  rw [mnext, signP, if_pos ⟨keyB_len _, mproxy_ok h y⟩]
theorem mstep_inv {h : Int} {m : MS} (H : MInv h m) (y : Five) : MInv h (mstep m y) := by
  have hne := mnext_eq H.ok y
  have hpk := mproxy_ok H.ok y
  obtain ⟨⟨h1, h2⟩, ⟨h3, h4, h5⟩, h6, h7, h8⟩ := H.ok
  have e1 := narrow_ok (l := y.b) (r := y.c) h3 h4
  have e2 := narrow_ok (l := y.d) (r := y.e) h6 h7
  have e3 := pickN_lo (c := y.a) (n := 9) (by decide)
  have e4 := pickN_hi (c := y.a) (n := 9) (by decide)
  have hl : (mstep m y).l = m.l ++ [mnext m y] := rfl
  have hlen : (m.l ++ [mnext m y]).length = m.l.length + 1 := by simp
  refine ⟨mstep_ok H.ok y, ?_, ?_, ?_, ?_, ?_, ?_, ?_, ?_, ?_⟩
  · rw [hl]
    exact okTo_snoc (P := formP) H.forms (fun i hi => by rw [formP, formP, getD_app hi]) (by rw [formP, getD_end, hne]; exact (congrArg (!·) hpk))
  · rw [hl]
    refine okTo_snoc (P := chainP h) H.chain (fun i hi => by rw [chainP, chainP, getD_app hi, whoAt_app (by omega)]) ?_
    rw [chainP, getD_end, whoAt_app (Nat.le_refl _), H.who, hne]
    simp
  · rw [hl, hlen, whoAt, getD_end, hne]
    rfl
  · rw [hl]
    refine okTo_snoc (P := scopeP) H.scope (fun i hi => by rw [scopeP, scopeP, getD_app hi, getD_app (by omega)]) ?_
    rw [scopeP, getD_end]
    by_cases hz : 0 < m.l.length
    · rw [getD_app (by omega), hne]
      have := H.last hz
      simp only [this, Bool.not_true, Bool.and_false]
    · rw [decide_eq_false hz, Bool.false_and]
  · intro _
    rw [hl, hlen, Nat.add_sub_cancel, getD_end, hne]
    simp only [inScope, scopeOk, Bool.and_eq_true, decide_eq_true_eq]
    simp only [mstep]
    omega
  · rw [hl]
    refine okTo_snoc (P := sealP (keysN 10)) H.seals (fun i hi => by rw [sealP, sealP, getD_app hi]) ?_
    rw [sealP, getD_end, hne, sealBadP, keysN_len]
    simp only
    rw [decide_eq_false (by omega), keysN_at h1 (by omega)]
    rw [Bool.false_or, Bool.not_eq_false', beq_iff_eq]
    rfl
  · intro p hp
    rw [hl, List.mem_append, List.mem_singleton] at hp
    rcases hp with hp | rfl
    · exact H.sig p hp
    · rw [hne]; exact sealOf_len _ _
  · intro p hp
    rw [hl, List.mem_append, List.mem_singleton] at hp
    rcases hp with hp | rfl
    · exact H.nine p hp
    · rw [hne]
      simp only
      omega
  · intro p hp
    rw [hl, List.mem_append, List.mem_singleton] at hp
    rcases hp with hp | rfl
    · exact H.same p hp
    · rw [hne, signP, if_pos ⟨keyB_len _, hpk⟩]
      rfl
theorem mstart_inv (u : Nums) : MInv (pickN u.holder 10) (mstart u) :=
  ⟨mstart_ok u, okTo.zero _, okTo.zero _, rfl, okTo.zero _, fun h => absurd h (Nat.lt_irrefl 0), okTo.zero _, fun p hp => absurd hp (by simp [mstart]), fun p hp => absurd hp (by simp [mstart]), fun p hp => absurd hp (by simp [mstart])⟩
theorem mrun_inv (u : Nums) : ∀ (k : Nat), k ≤ u.chain.length → MInv (pickN u.holder 10) (mrun u k)
  | 0, _ => mstart_inv u
  | k + 1, h => by rw [mrun_succ (by omega)]; exact mstep_inv (mrun_inv u k (by omega)) _
theorem mrun_len (u : Nums) : ∀ (k : Nat), k ≤ u.chain.length → (mrun u k).l.length = k
  | 0, _ => rfl
  | k + 1, h => by
    rw [mrun_succ (by omega)]
    simp only [mstep, List.length_append, mrun_len u k (by omega)]
    rfl
theorem mfin_inv (u : Nums) : MInv (pickN u.holder 10) (mfin u) := mrun_inv u _ (by omega)
theorem madeL_len (u : Nums) : (madeL u).length ≤ 4 := by
  rw [madeL, mfin, mrun_len u _ (by omega)]; omega
theorem mwish_ok (u : Nums) : wishOk (wishOfM u (mfin u)) = true := by
  obtain ⟨⟨h1, h2⟩, ⟨h3, h4, h5⟩, h6, h7, h8⟩ := (mfin_inv u).ok
  have e1 := pickN_lo (c := u.holder) (n := 10) (by decide)
  have e2 := pickN_hi (c := u.holder) (n := 10) (by decide)
  have e3 := pickN_lo (c := u.carrier) (n := 8) (by decide)
  have e4 := pickN_hi (c := u.carrier) (n := 8) (by decide)
  have e5 := pickN_lo (c := u.serial) (n := 1000) (by decide)
  have e6 := pickN_hi (c := u.serial) (n := 1000) (by decide)
  simp only [wishOk, within, rangeOk, spellOk, Bool.and_eq_true, decide_eq_true_eq]
  simp only [wishOfM]
  omega
theorem madeW_eq (u : Nums) : madeW u = { wishOfM u (mfin u) with sig := sealOf (keyB (mfin u).who) (wishText (wishOfM u (mfin u))) } := by
  rw [madeW, signW, if_pos ⟨keyB_len _, mwish_ok u⟩]
/-- The facts on a made wish. -/
structure Made (w : Wish) (l : List Proxy) : Prop where
  wok : wishOk w = true
  sg : 0 ≤ w.signer ∧ w.signer ≤ 9
  hd : 0 ≤ w.holder ∧ w.holder ≤ 9
  rg : 0 ≤ w.rlo ∧ w.rlo < w.rhi ∧ w.rhi ≤ 11000
  sp : 0 ≤ w.slo ∧ w.slo < w.shi ∧ w.shi ≤ 11000
  len : l.length ≤ 4
  sig : w.sig.length = 32
  sl : w.sig = sealOf (keyB w.signer) (wishText w)
  forms : okTo (formP l) l.length
  chain : okTo (chainP w.holder l) l.length
  who : w.signer = whoAt w.holder l l.length
  scope : okTo (scopeP l) l.length
  last : 0 < l.length → inScope w.rlo w.rhi w.slo w.shi (l.getD (l.length - 1) proxy0) = true
  seals : okTo (sealP (keysN 10) l) l.length
  psig : ∀ p ∈ l, p.sig.length = 32
  nine : ∀ p ∈ l, 0 ≤ p.frm ∧ p.frm ≤ 9 ∧ 0 ≤ p.to ∧ p.to ≤ 9 ∧ 0 ≤ p.rhi ∧ p.rhi ≤ 11000
  same : ∀ p ∈ l, signP (keyB p.frm) p = (p, 0)
theorem made (u : Nums) : Made (madeW u) (madeL u) := by
  have H := mfin_inv u
  obtain ⟨⟨h1, h2⟩, ⟨h3, h4, h5⟩, h6, h7, h8⟩ := H.ok
  have e1 := pickN_lo (c := u.holder) (n := 10) (by decide)
  have e2 := pickN_hi (c := u.holder) (n := 10) (by decide)
  have hw := mwish_ok u
  rw [madeW_eq]
  exact ⟨hw, ⟨h1, h2⟩, ⟨e1, by show pickN u.holder 10 ≤ 9; omega⟩, ⟨h3, h4, h5⟩, ⟨h6, h7, h8⟩, madeL_len u, sealOf_len _ _, rfl, H.forms, H.chain, H.who.symm, H.scope, H.last, H.seals, H.sig, H.nine, H.same⟩
theorem Made.why {w : Wish} {l : List Proxy} (M : Made w l) (nu t : Int) : whyOf (keysN 10) w l nu t = if t < w.slo ∨ w.shi ≤ t then (2, -1) else if nu < w.rlo ∨ w.rhi ≤ nu then (3, -1) else (0, -1) := by
  have e0 : ¬ (64 < (keysN 10).length ∨ wishOk w = false ∨ 4 < l.length ∨ firstIx (keyP (keysN 10)) (keysN 10).length ≠ none) := by
    rintro (h | h | h | h)
    · rw [keysN_len] at h; omega
    · rw [M.wok] at h; cases h
    · have := M.len; omega
    · exact h (keysN_ok 10)
  have e7 : ¬ (0 < l.length ∧ inScope w.rlo w.rhi w.slo w.shi (l.getD (l.length - 1) proxy0) = false) := by
    rintro ⟨h1, h2⟩
    rw [M.last h1] at h2; cases h2
  have e8 : ¬ (sealBadW (keysN 10) w = true) := by
    rw [sealBadW, keysN_len, keysN_at M.sg.1 (by have := M.sg.2; omega), M.sl, decide_eq_false (by have := M.sg.2; omega)]
    simp only [Bool.false_or, Bool.not_eq_true', beq_eq_false_iff_ne, ne_eq, Decidable.not_not]
  rw [whyOf, if_neg e0, firstIx_none M.forms, oneOr, firstIx_none M.chain, oneOr, if_neg (not_not_intro M.who), firstIx_none M.scope, oneOr, if_neg e7, firstIx_none M.seals, oneOr, if_neg e8]
theorem Made.ok {w : Wish} {l : List Proxy} (M : Made w l) {nu t : Int} (h1 : w.rlo ≤ nu) (h2 : nu < w.rhi) (h3 : w.slo ≤ t) (h4 : t < w.shi) : whyOf (keysN 10) w l nu t = (0, -1) := by
  rw [M.why, if_neg (by omega), if_neg (by omega)]
theorem Made.formed {w : Wish} {l : List Proxy} (M : Made w l) : formedOk w l = true := by
  rw [formedOk, M.wok, decide_eq_true M.len, formP_all.1 (firstIx_none M.forms)]; rfl
section
variable {P : Program} {G L : List Asn} {d : Option Tmp} {ty : TypeId} {pos : String} {aft : Array Edge} {ρ : Operand → Value} {g : Option (Nat × Bool)} {x y : Operand} {t t' : TypeId}
theorem rd_neb {a b : Bool} (ht : P.underlying t = some .bool) (hx : ρ x = .bool a) (hy : ρ y = .bool b) : Reads P G L ⟨d, .binOp .neq t x y t', ty, pos, aft, g⟩ ρ (.bool (a != b)) := .of (fun c h => by cases h) fun w => by
  have hg : (eqGuard .neq t x y (.bool a) (.bool b)).run P w = .ok () w := rfl
  have h := run_equalIn_bool' (P := P) w 9999 t a b ht
  simp only [execOp, hx, hy, binOp]
  simp [Op.equal, Op.maxDepth, h, hg, bne]
theorem rd_b {o : Oper} {a b : Bool} (h : Reads P G L o ρ (.bool a)) (e : a = b) : Reads P G L o ρ (.bool b) := e ▸ h
theorem cv_b {g : FuncId} {a : Array Value} {b c : Bool} (h : Cv P g a G (.bool b)) (e : b = c) : Cv P g a G (.bool c) := e ▸ h
end
end Go.TL
end
section
/- From a call's contract to a given statement: the arguments as they are read, the listed variable, what is kept. No program is named here. -/
set_option linter.unusedVariables false
set_option linter.unusedSimpArgs false
namespace Go.TL
open Go.ChangeShapes Go.WideShapes Go.RowKit
theorem Ok.below {w w' : World} (h : Ok (fun _ => False) w w') : Below w.heap.size w w' := ⟨h.os, h.tape, h.output, h.size, fun k hk => h.block k hk (fun h => h)⟩
section
variable {H : Type} {enc : TypeId × Value → H} {P : Program} {base : Nat} {spare : Nat → Bool} {held : Bool}
theorem trodAll_below {W W' : World} (hl : laidOutB P = true) (hb : Below W.heap.size W W') : ∀ {ts : List TypeId} {vs : List Value} {ds : List (DataW H)} {ps : List MemPlace}, (ts.all fun t => P.readableRec t && decide (t < P.types.size)) = true →
    DataW.TrodAll enc P W 0 (fun _ => true) true ts vs ds ps → DataW.TrodAll enc P W' 0 (fun b => decide (b < W.heap.size)) true ts vs ds ps
  | [], [], [], _, _, h => h
  | [], [], _ :: _, _, _, h => h.elim
  | [], _ :: _, _, _, _, h => h.elim
  | _ :: _, [], _, _, _, h => h.elim
  | _ :: _, _ :: _, [], _, _, h => h.elim
  | t :: ts, v :: vs, d :: ds, ps, ht, h => by
    have hlt := h.lt
    obtain ⟨p, q, ⟨n, h1⟩, h2, e⟩ := h
    simp only [List.all_cons, Bool.and_eq_true, decide_eq_true_eq] at ht
    exact ⟨p, q, ⟨n, DataW.trod_stays (kids_book hl ht.1.1) (Go.book_sized ht.1.1) (fun h => by cases h) ⟨ht.1.2, book_self t⟩ h1 (fun x hx => hb.same (hlt x (by rw [e]; simp [hx]))) (fun x hx => by have := hlt x (by rw [e]; simp [hx]); simpa using this)⟩,
      trodAll_below hl hb (by simpa using ht.2) h2, e⟩
def structL : TypeDesc → Option (List (Nat × Nat))
  | .struct fs => some (fs.toList.map fun f => (f.type, f.offset))
  | _ => none
theorem trod_fields {w : World} {t fuel : Nat} {cs : List Value} {x : DataW H × List MemPlace} {l : List (Nat × Nat)} (hu : (P.underlying t).bind structL = some l) (h : DataW.trod enc P w base spare held fuel t cs = some x) :
    ∃ (n : Nat), cs.length = P.cellsOf t ∧ ∀ i (hi : i < l.length), ∃ y, DataW.trod enc P w base spare held n (l[i]'hi).1 ((cs.drop (l[i]'hi).2).take (P.cellsOf (l[i]'hi).1)) = some y := by
  cases hd : P.underlying t with
  | none => rw [hd] at hu; simp at hu
  | some d =>
    rw [hd] at hu
    cases d with
    | struct fs =>
      simp only [Option.bind_some, structL, Option.some.injEq] at hu
      subst hu
      obtain ⟨xs, n, _, _, h1, h2, h3⟩ := DataW.trod_struct hd h
      refine ⟨n, h1, fun i hi => ?_⟩
      simp only [List.length_map, Array.length_toList] at hi
      refine ⟨xs[i]'(by omega), ?_⟩
      have := h3 i fs[i] (by simp [hi])
      simp only [List.getElem_map, Array.getElem_toList]
      rw [this]
      simp [h2, hi]
    | _ => simp [structL] at hu
theorem trod_elems {w : World} {t fuel m e : Nat} {cs : List Value} {x : DataW H × List MemPlace} (hu : P.underlying t = some (.array m e)) (h : DataW.trod enc P w base spare held fuel t cs = some x) :
    ∃ (n : Nat), cs.length = P.cellsOf t ∧ ∀ i, i < m → ∃ y, DataW.trod enc P w base spare held n e ((cs.drop (i * P.cellsOf e)).take (P.cellsOf e)) = some y := by
  obtain ⟨xs, n, _, _, h1, h2, h3⟩ := DataW.trod_array hu h
  refine ⟨n, h1, fun i hi => ⟨xs[i]'(by omega), ?_⟩⟩
  rw [h3 i hi]
  simp [h2, hi]
theorem wf_i64 {n : Int} (h : (Lit.int .i64 n).wf = true) : I64R n := by
  simpa [I64R, Lit.wf, IntKind.min, IntKind.max, IntKind.signed, IntKind.bits] using h
theorem trod_i64 {w : World} {t fuel : Nat} {cs : List Value} {x : DataW H × List MemPlace} (ht : P.underlying t = some (.int .i64)) (h : DataW.trod enc P w base spare held fuel t cs = some x) : ∃ n, cs = [.int .i64 n] ∧ I64R n := by
  obtain ⟨n, h1, _, h2⟩ := DataW.trod_int ht h
  exact ⟨n, h1, wf_i64 h2⟩
theorem str_data (s : ByteArray) : s = str s.data.toList := by
  cases s; simp [str]
theorem trod_str {w : World} {t fuel : Nat} {cs : List Value} {x : DataW H × List MemPlace} (ht : P.underlying t = some .string) (h : DataW.trod enc P w base spare held fuel t cs = some x) : ∃ l : Bytes, cs = [.string (str l)] ∧ l.length ≤ 9223372036854775807 := by
  obtain ⟨s, h1, _, h2⟩ := DataW.trod_string ht h
  refine ⟨s.data.toList, by rw [h1, ← str_data], ?_⟩
  rw [Array.length_toList]
  exact Nat.le_trans h2 (Nat.le_of_ble_eq_true rfl)
theorem exists_list {α : Type} {Q : Nat → α → Prop} : ∀ (n : Nat), (∀ i, i < n → ∃ y, Q i y) → ∃ ys : List α, ys.length = n ∧ ∀ i (h : i < ys.length), Q i ys[i]
  | 0, _ => ⟨[], rfl, fun i h => absurd h (Nat.not_lt_zero i)⟩
  | n + 1, h => by
    obtain ⟨ys, h1, h2⟩ := exists_list n fun i hi => h i (by omega)
    obtain ⟨y, hy⟩ := h n (by omega)
    refine ⟨ys ++ [y], by simp [h1], fun i hi => ?_⟩
    rcases Nat.lt_or_ge i ys.length with h' | h'
    · rw [List.getElem_append_left h']; exact h2 i h'
    · have : i = n := by simp at hi; omega
      subst this
      rw [List.getElem_append_right h']
      simpa using hy
theorem mapM_range_get {β : Type} {f : Nat → Option β} : ∀ {n : Nat} {l : List β}, (List.range n).mapM f = some l → l.length = n ∧ ∀ i, i < n → f i = l[i]?
  | 0, l, h => by simp at h; subst h; exact ⟨rfl, fun i hi => absurd hi (Nat.not_lt_zero i)⟩
  | n + 1, l, h => by
    rw [List.range_succ, List.mapM_append] at h
    simp only [List.mapM_cons, List.mapM_nil, Option.bind_eq_bind, Option.pure_def, Option.bind_eq_some_iff] at h
    obtain ⟨l1, h1, l2, ⟨z, hz, l3, h3, h4⟩, h5⟩ := h
    simp only [Option.some.injEq] at h3 h4 h5
    subst h3 h4 h5
    obtain ⟨e1, e2⟩ := mapM_range_get h1
    refine ⟨by simp [e1], fun i hi => ?_⟩
    rcases Nat.lt_or_ge i n with h' | h'
    · rw [List.getElem?_append_left (by omega)]; exact e2 i h'
    · have : i = n := by omega
      subst this
      rw [List.getElem?_append_right (by omega), e1, hz]
      simp
theorem cells_get {w : World} {a : Addr} {n : Nat} {cs : List Value} (h : w.cells? base a n = some cs) : cs.length = n ∧ ∀ j, j < n → w.cell? (a.add j) = cs[j]? := by
  unfold World.cells? at h
  split at h
  · exact mapM_range_get h
  · cases h
/-- A slice, whose elements are read one by one. -/
theorem trod_slc {α : Type} {e : α → List Value} {Pα : α → Prop} {w : World} {t el sz fuel : Nat} {cs : List Value} {x : DataW H × List MemPlace} (ht : P.underlying t = some (.slice el)) (hsz : P.cellsOf el = sz) (hpos : 0 < sz) (he : ∀ y, (e y).length = sz)
    (hel : ∀ n cs x, DataW.trod enc P w base spare held n el cs = some x → ∃ y, cs = e y ∧ Pα y) (h : DataW.trod enc P w base spare held fuel t cs = some x) :
    ∃ (A : Option Addr) (len cap : Nat) (ys : List α), cs = [.slice A len cap] ∧ len = ys.length ∧ len ≤ cap ∧ cap ≤ 9223372036854775807 ∧ (∀ i (h : i < ys.length), Pα (ys[i]'h)) ∧ (slc e sz A ys).on (fun b => b < w.heap.size) w := by
  rcases DataW.trod_slice ht h with ⟨rfl, rfl⟩ | ⟨a, len, cap, elems, rest, n, _, rfl, rfl, hb, hl, hm, hlen, hel', hsp, hns⟩
  · exact ⟨none, 0, 0, [], rfl, rfl, Nat.le_refl _, by decide, fun i h => absurd h (Nat.not_lt_zero i), .inl rfl⟩
  · have each : ∀ i, i < len → ∃ y : α, Pα y ∧ ∀ j, j < sz → w.cell? ((a.add (i * sz)).add j) = (e y)[j]? := by
      intro i hi
      have h1 := hel' i hi
      rw [hsz] at h1
      have h2 : elems[i]? = some (elems[i]'(by omega)) := List.getElem?_eq_getElem (by omega)
      rw [h2] at h1
      obtain ⟨cs', hc, ht'⟩ := Option.bind_eq_some_iff.1 h1
      obtain ⟨y, rfl, hy⟩ := hel n _ _ ht'
      exact ⟨y, hy, (cells_get hc).2⟩
    obtain ⟨ys, hys, hQ⟩ := exists_list (Q := fun i y => Pα y ∧ ∀ j, j < sz → w.cell? ((a.add (i * sz)).add j) = (e y)[j]?) len each
    refine ⟨some a, len, cap, ys, rfl, hys.symm, hl, hm, fun i h => (hQ i h).1, ?_⟩
    rcases Nat.eq_zero_or_pos len with h0 | h0
    · left
      exact List.length_eq_zero_iff.1 (by omega)
    · right
      have hz : 0 < ys.length := by omega
      have c0 := (hQ 0 hz).2 0 hpos
      have e0 : (e ys[0])[0]? = some ((e ys[0])[0]'(by rw [he]; exact hpos)) := List.getElem?_eq_getElem _
      rw [Nat.zero_mul, e0] at c0
      have a0 : (a.add 0).add 0 = a := by simp [Addr.add]
      rw [a0] at c0
      have hs : a.spot = none ∧ ∃ c t fr, w.heap[a.block]? = some (.cells c t fr) := by
        unfold World.cell? at c0
        split at c0
        · rename_i c t fr hh
          split at c0
          · cases c0
          · rename_i hn
            exact ⟨by simpa using hn, c, t, fr, hh⟩
        · cases c0
      obtain ⟨hsp', c, t', fr, hh⟩ := hs
      obtain ⟨b, o, s⟩ := a
      simp only at hsp' hh
      subst hsp'
      refine ⟨b, o, rfl, (Array.getElem?_eq_some_iff.1 hh).1, c, t', fr, hh, fun i hi j hj => ?_⟩
      have := (hQ i hi).2 j hj
      rw [add_plain, add_plain] at this
      unfold World.cell? at this
      simp only [hh] at this
      simpa using this
/-- The types of the arguments. -/
structure NumTy (P : Program) (nt ar sl ft it : Nat) : Prop where
  un : (P.underlying nt).bind structL = some [(it, 0), (ar, 1), (ar, 3), (it, 5), (it, 6), (sl, 7)]
  ua : P.underlying ar = some (.array 2 it)
  us : P.underlying sl = some (.slice ft)
  uf : P.underlying ft = some (.array 5 it)
  ui : P.underlying it = some (.int .i64)
  cn : P.cellsOf nt = 8
  ca : P.cellsOf ar = 2
  cs : P.cellsOf sl = 1
  cf : P.cellsOf ft = 5
  ci : P.cellsOf it = 1
def numsL (u : Nums) (A : Option Addr) (m cap : Nat) : List Value := [.int .i64 u.holder, .int .i64 u.r0, .int .i64 u.r1, .int .i64 u.s0, .int .i64 u.s1, .int .i64 u.carrier, .int .i64 u.serial, .slice A m cap]
theorem lst2 {α : Type} {l : List α} (h : l.length = 2) : ∃ a b, l = [a, b] := by
  match l, h with
  | [a, b], _ => exact ⟨a, b, rfl⟩
theorem lst5 {α : Type} {l : List α} (h : l.length = 5) : ∃ a b c d e, l = [a, b, c, d, e] := by
  match l, h with
  | [a, b, c, d, e], _ => exact ⟨a, b, c, d, e, rfl⟩
theorem lst8 {α : Type} {l : List α} (h : l.length = 8) : ∃ a b c d e f g i, l = [a, b, c, d, e, f, g, i] := by
  match l, h with
  | [a, b, c, d, e, f, g, i], _ => exact ⟨a, b, c, d, e, f, g, i, rfl⟩
variable {nt ar sl ft it : Nat}
theorem NumTy.pair (E : NumTy P nt ar sl ft it) {w : World} {fuel : Nat} {cs : List Value} {x : DataW H × List MemPlace} (h : DataW.trod enc P w base spare held fuel ar cs = some x) : ∃ a b, cs = [.int .i64 a, .int .i64 b] ∧ I64R a ∧ I64R b := by
  obtain ⟨n, h1, h2⟩ := trod_elems E.ua h
  rw [E.ca] at h1
  obtain ⟨c0, c1, rfl⟩ := lst2 h1
  simp only [E.ci, Nat.mul_one] at h2
  obtain ⟨y0, k0⟩ := h2 0 (Nat.le_of_ble_eq_true rfl)
  obtain ⟨y1, k1⟩ := h2 1 (Nat.le_of_ble_eq_true rfl)
  obtain ⟨a, e0, w0⟩ := trod_i64 E.ui k0
  obtain ⟨b, e1, w1⟩ := trod_i64 E.ui k1
  simp at e0 e1
  exact ⟨a, b, by rw [e0, e1], w0, w1⟩
theorem NumTy.five (E : NumTy P nt ar sl ft it) {w : World} {fuel : Nat} {cs : List Value} {x : DataW H × List MemPlace} (h : DataW.trod enc P w base spare held fuel ft cs = some x) : ∃ y : Five, cs = fiveL y ∧ FiveOk y := by
  obtain ⟨n, h1, h2⟩ := trod_elems E.uf h
  rw [E.cf] at h1
  obtain ⟨c0, c1, c2, c3, c4, rfl⟩ := lst5 h1
  simp only [E.ci, Nat.mul_one] at h2
  obtain ⟨y0, k0⟩ := h2 0 (Nat.le_of_ble_eq_true rfl)
  obtain ⟨y1, k1⟩ := h2 1 (Nat.le_of_ble_eq_true rfl)
  obtain ⟨y2, k2⟩ := h2 2 (Nat.le_of_ble_eq_true rfl)
  obtain ⟨y3, k3⟩ := h2 3 (Nat.le_of_ble_eq_true rfl)
  obtain ⟨y4, k4⟩ := h2 4 (Nat.le_of_ble_eq_true rfl)
  obtain ⟨a, e0, w0⟩ := trod_i64 E.ui k0
  obtain ⟨b, e1, w1⟩ := trod_i64 E.ui k1
  obtain ⟨c, e2, w2⟩ := trod_i64 E.ui k2
  obtain ⟨d, e3, w3⟩ := trod_i64 E.ui k3
  obtain ⟨e, e4, w4⟩ := trod_i64 E.ui k4
  simp at e0 e1 e2 e3 e4
  exact ⟨⟨a, b, c, d, e⟩, by rw [e0, e1, e2, e3, e4]; rfl, w0, w1, w2, w3, w4⟩
theorem NumTy.nums (E : NumTy P nt ar sl ft it) {w : World} {fuel : Nat} {cs : List Value} {x : DataW H × List MemPlace} (h : DataW.trod enc P w base spare held fuel nt cs = some x) :
    ∃ (u : Nums) (A : Option Addr) (m cap : Nat), cs = numsL u A m cap ∧ m = u.chain.length ∧ NumsOk u ∧ u.chain.length ≤ 9223372036854775807 ∧ (slc fiveL 5 A u.chain).on (fun b => b < w.heap.size) w := by
  obtain ⟨n, h1, h2⟩ := trod_fields E.un h
  rw [E.cn] at h1
  obtain ⟨c0, c1, c2, c3, c4, c5, c6, c7, rfl⟩ := lst8 h1
  obtain ⟨y0, k0⟩ := h2 0 (Nat.le_of_ble_eq_true rfl)
  obtain ⟨y1, k1⟩ := h2 1 (Nat.le_of_ble_eq_true rfl)
  obtain ⟨y2, k2⟩ := h2 2 (Nat.le_of_ble_eq_true rfl)
  obtain ⟨y3, k3⟩ := h2 3 (Nat.le_of_ble_eq_true rfl)
  obtain ⟨y4, k4⟩ := h2 4 (Nat.le_of_ble_eq_true rfl)
  obtain ⟨y5, k5⟩ := h2 5 (Nat.le_of_ble_eq_true rfl)
  simp only [List.getElem_cons_zero, List.getElem_cons_succ, E.ci, E.ca, E.cs] at k0 k1 k2 k3 k4 k5
  obtain ⟨a0, e0, w0⟩ := trod_i64 E.ui k0
  obtain ⟨a1, b1, e1, w1, v1⟩ := E.pair k1
  obtain ⟨a2, b2, e2, w2, v2⟩ := E.pair k2
  obtain ⟨a3, e3, w3⟩ := trod_i64 E.ui k3
  obtain ⟨a4, e4, w4⟩ := trod_i64 E.ui k4
  obtain ⟨A, len, cap, ys, e5, hlen, hl, hc, hP, hon⟩ := trod_slc (e := fiveL) (Pα := FiveOk) E.us E.cf (by decide) (fun _ => rfl) (fun _ _ _ h => E.five h) k5
  simp at e0 e1 e2 e3 e4 e5
  obtain ⟨e10, e11⟩ := e1
  obtain ⟨e20, e21⟩ := e2
  refine ⟨⟨a0, a1, b1, a2, b2, a3, a4, ys⟩, A, len, cap, ?_, hlen, ⟨⟨w0, w1, v1, w2, v2, w3, w4⟩, hP⟩, by dsimp only; omega, hon⟩
  rw [e0, e10, e11, e20, e21, e3, e4, e5]
  rfl
theorem trod_u8 {w : World} {t fuel : Nat} {cs : List Value} {x : DataW H × List MemPlace} (ht : P.underlying t = some (.int .u8)) (h : DataW.trod enc P w base spare held fuel t cs = some x) : ∃ n : UInt8, cs = [.int .u8 n.toNat] := by
  obtain ⟨n, h1, _, h2⟩ := DataW.trod_int ht h
  have h3 : 0 ≤ n ∧ n ≤ 255 := by simpa [Lit.wf, IntKind.min, IntKind.max, IntKind.signed, IntKind.bits] using h2
  refine ⟨UInt8.ofNat n.toNat, by rw [h1]; simp only [UInt8.toNat_ofNat', List.cons.injEq, Value.int.injEq, true_and, and_true]; omega⟩
/-- The listed variable: a row of 32-bit words. -/
theorem u32s_of {w : World} {t e m fuel : Nat} {cs : List Value} {ps : List MemPlace} {zs : List Int} (hu : P.underlying t = some (.array m e)) (he : P.underlying e = some (.int .u32)) (hc : P.cellsOf e = 1) (hz : zs.length = m)
    (h : DataW.trod enc P w base spare held fuel t cs = some (.agg (zs.map fun z => .lit (.int .u32 z)), ps)) (hct : P.cellsOf t = m) : cs = zs.map (.int .u32 ·) := by
  obtain ⟨xs, n, _, ex, hlen, hl, hel⟩ := DataW.trod_array hu h
  have e1 : (DataW.agg (zs.map fun z => DataW.lit (Lit.int .u32 z)) : DataW H) = .agg (xs.map (·.1)) := (Prod.mk.inj ex).1
  have e2 : zs.map (fun z => DataW.lit (Lit.int .u32 z)) = xs.map (·.1) := DataW.agg.inj e1
  apply List.ext_getElem?
  intro i
  by_cases hi : i < m
  · have h1 := hel i hi
    rw [hc, Nat.mul_one] at h1
    have hx : xs[i]? = some (xs[i]'(by omega)) := List.getElem?_eq_getElem (by omega)
    rw [hx] at h1
    obtain ⟨z, hz1, hz2, _⟩ := DataW.trod_int he h1
    have e3 := congrArg (fun l => l[i]?) e2
    simp only [List.getElem?_map, hx, Option.map_some, hz2] at e3
    have hzi : zs[i]? = some (zs[i]'(by omega)) := List.getElem?_eq_getElem (by omega)
    rw [hzi] at e3
    simp only [Option.map_some, Option.some.injEq, DataW.lit.injEq, Lit.int.injEq, true_and] at e3
    have hcs : i < cs.length := by rw [hlen, hct]; exact hi
    have h5 : cs[i]? = some (.int .u32 z) := by
      have := congrArg (fun l => l[0]?) hz1
      simpa [List.getElem?_take, List.getElem?_drop] using this
    rw [h5, List.getElem?_map, hzi, Option.map_some, e3]
  · rw [List.getElem?_eq_none (by rw [hlen, hct]; omega), List.getElem?_eq_none (by simp; omega)]
end
/-- The way from the contract to the statement's inner form. -/
theorem returns_law {H : Type} {enc : TypeId × Value → H} {C : Checked} {os : Os} {f : FuncId} {fn : Func} {s : ChangeSpec} {laid : List (String × DataW Unit)} {tb k : Nat}
    (own : ownKnob C.prog.godebug = none) (started : os.Started) (noInit : C.prog.inits.idxOf? f = none) (hfn : C.prog.funcs[f]? = some fn) (hl : laidOutB C.prog = true)
    (witness : ∃ (w : World) (tape : Tape) (i : Input), w.os = os ∧ (w.forCall tape i).Shaped C.prog ∧ i.vars = [] ∧ Input.okWide C.prog (w.forCall tape i) .any w.heap.size f i ∧
      ((s.pre enc C.prog fn [] false (w.forCall tape i).memory i.args ∧ laidMetH C.prog laid (w.forCall tape i).memory) ∧ sizedMet enc C.prog fn (OpenSpec.ofChange s) false (w.forCall tape i).memory i.args) ∧ ({} : Assume).holds C.prog (lone (Frame.enter C.prog f i.args .normal) [] (w.forCall tape i)))
    (hres : fn.resultTypes = #[tb]) (htb : C.prog.underlying tb = some .bool) (hts : (fn.params.toList.all fun t => C.prog.readableRec t && decide (t < C.prog.types.size)) = true) (hv : s.vars = []) (hk : fn.params.toList.length = k)
    (hs : ∀ ds : List (DataW H), ds.length = k → s.fn H ds = { results := [.lit (.bool true)], args := ds })
    (hcall : ∀ (W : World) (base : Nat) (args : Array Value) (ds : List (DataW H)) (p : List MemPlace), (∀ (j : Nat) t v, fn.params[j]? = some t → args[j]? = some v → Value.okWide C.prog W .any base t v) →
      DataW.TrodAll enc C.prog W 0 (fun _ => true) true fn.params.toList args.toList ds p → laidMetH C.prog laid W → W.ShapedOpen C.prog → ∃ G, Cv C.prog f args G (.bool true) ∧ ∀ X ∈ G, X.on (fun b => b < W.heap.size) W) :
    ReturnsInHanded {} C os f .any (fun w args => (s.pre enc C.prog fn [] false w args ∧ laidMetH C.prog laid w) ∧ sizedMet enc C.prog fn (OpenSpec.ofChange s) false w args) (s.post enc C.prog fn false true false false) := by
  refine returnsInHanded_of_calls own started noInit witness ?_
  intro w tape i _ hsh _ hok hpre hholds
  obtain ⟨_, _, _, fn', hfn', _, _, _, _, hval⟩ := hok
  have e : fn' = fn := Option.some.inj (hfn'.symm.trans hfn)
  subst e
  obtain ⟨⟨⟨ds, gs, before, hw, _⟩, hx⟩, hz⟩ := hpre
  have hw' := DataW.Whole.of_heap (w' := w.forCall tape i) (by rfl) hw
  have hL : laidMetH C.prog laid (w.forCall tape i) := laidMetH.of_heap (by rfl) hx
  have hw2 := hw'
  obtain ⟨p, q, hA, hV, rfl, _, _⟩ := hw2
  obtain ⟨G, hc, hG⟩ := hcall (w.forCall tape i) w.heap.size i.args ds p hval hA hL hsh
  refine (hc (w.forCall tape i) (fun _ => False) (fun X hX => X.keep (fun b hb => ⟨⟨hb, fun h => h⟩, rfl⟩) (hG X hX)) trivial (fun _ h => h.elim)).mono fun e W' ⟨_, _, he, hO, _⟩ => ?_
  subst he
  have hb := hO.below
  have hlen := (trodAll_length hA).2
  obtain ⟨rfl, rfl⟩ : gs = [] ∧ q = [] := by
    rw [hv] at hV
    exact trodVars_none hV
  have e1 := hs ds (by rw [hlen, hk])
  refine ChangeSpec.post_blind ⟨ds, [], p ++ [], [], p, [], hw', ?_, ?_, ?_, hb.frame _, fun h => by cases h⟩
  · rw [List.append_nil, e1, hres]
    exact trodAll_mk1 (shut_bool htb true)
  · rw [List.append_nil, e1]
    exact trodAll_below hl hb hts hA
  · rw [List.append_nil, e1, hv]
    exact rfl
section
variable {H : Type} {enc : TypeId × Value → H} {P : Program} {W : World} {base : Nat}
theorem trodAll_get : ∀ {ts : List TypeId} {vs : List Value} {ds : List (DataW H)} {ps : List MemPlace}, DataW.TrodAll enc P W 0 (fun _ => true) true ts vs ds ps → ∀ (j : Nat) (t : TypeId) (v : Value), ts[j]? = some t → vs[j]? = some v → ∃ d p, DataW.Trod enc P W 0 (fun _ => true) true t v d p
  | [], _, _, _, _, j, t, v, ht, _ => by simp at ht
  | _ :: _, [], _, _, h, _, _, _, _, _ => h.elim
  | _ :: _, _ :: _, [], _, h, _, _, _, _, _ => h.elim
  | t0 :: ts, v0 :: vs, d0 :: ds, ps, ⟨p, q, h1, h2, _⟩, j, t, v, ht, hv => by
    cases j with
    | zero =>
      simp only [List.getElem?_cons_zero, Option.some.injEq] at ht hv
      subst ht hv
      exact ⟨_, _, h1⟩
    | succ j => exact trodAll_get h2 j t v (by simpa using ht) (by simpa using hv)
abbrev Arg (enc : TypeId × Value → H) (P : Program) (W : World) (base : Nat) (t : TypeId) (v : Value) : Prop := Value.okWide P W .any base t v ∧ ∃ d p, DataW.Trod enc P W 0 (fun _ => true) true t v d p
theorem args_of {params : List TypeId} {args : Array Value} {ds : List (DataW H)} {ps : List MemPlace} (hval : ∀ (j : Nat) t v, params[j]? = some t → args[j]? = some v → Value.okWide P W .any base t v) (h : DataW.TrodAll enc P W 0 (fun _ => true) true params args.toList ds ps) :
    args.toList.length = params.length ∧ ∀ (j : Nat) t v, params[j]? = some t → args.toList[j]? = some v → Arg enc P W base t v :=
  ⟨(trodAll_length h).1, fun j t v ht hv => ⟨hval j t v ht (by simpa using hv), trodAll_get h j t v ht hv⟩⟩
theorem Arg.i64 {t : TypeId} {v : Value} (ht : P.underlying t = some (.int .i64)) (h : Arg enc P W base t v) : ∃ n, v = .int .i64 n ∧ I64R n := by
  obtain ⟨n, rfl⟩ := okWide_int ht h.1
  obtain ⟨d, p, f, h2⟩ := h.2
  obtain ⟨m, e, hw⟩ := trod_i64 ht h2
  have e' : n = m := by simpa [Value.cells] using e
  exact ⟨n, rfl, by rw [e']; exact hw⟩
theorem Arg.str {t : TypeId} {v : Value} (ht : P.underlying t = some .string) (h : Arg enc P W base t v) : ∃ l : Bytes, v = .string (str l) ∧ l.length ≤ 9223372036854775807 := by
  obtain ⟨n, rfl⟩ := okWide_string ht h.1
  obtain ⟨d, p, f, h2⟩ := h.2
  obtain ⟨m, e, hw⟩ := trod_str ht h2
  exact ⟨m, by simpa [Value.cells] using e, hw⟩
theorem Arg.u8 {t : TypeId} {v : Value} (ht : P.underlying t = some (.int .u8)) (h : Arg enc P W base t v) : ∃ c : UInt8, v = .int .u8 c.toNat := by
  obtain ⟨n, rfl⟩ := okWide_int ht h.1
  obtain ⟨d, p, f, h2⟩ := h.2
  obtain ⟨m, e⟩ := trod_u8 ht h2
  exact ⟨m, by simpa [Value.cells] using e⟩
theorem Arg.agg {t : TypeId} {v : Value} {l : List (Nat × Nat)} (hu : (P.underlying t).bind structL = some l) (h : Arg enc P W base t v) : ∃ cs, v = .agg cs := by
  have h1 := h.1
  cases hd : P.underlying t with
  | none => rw [hd] at hu; simp at hu
  | some d =>
    rw [hd] at hu
    cases d with
    | struct fs =>
      obtain ⟨cs, e, _⟩ := okWide_struct hd h1
      exact ⟨cs, e⟩
    | _ => simp [structL] at hu
theorem Arg.nums {nt ar sl ft it : Nat} {v : Value} (E : NumTy P nt ar sl ft it) (h : Arg enc P W base nt v) : ∃ (u : Nums) (A : Option Addr) (m cap : Nat), v = .agg (numsL u A m cap).toArray ∧ m = u.chain.length ∧ NumsOk u ∧ u.chain.length ≤ 9223372036854775807 ∧ (slc fiveL 5 A u.chain).on (fun b => b < W.heap.size) W := by
  obtain ⟨cs, rfl⟩ := h.agg E.un
  obtain ⟨d, p, f, h2⟩ := h.2
  obtain ⟨u, A, m, cap, e, hm, hx, hc, hs⟩ := E.nums h2
  have e' : cs.toList = numsL u A m cap := by simpa [Value.cells] using e
  exact ⟨u, A, m, cap, by rw [← e'], hm, hx, hc, hs⟩
theorem Arg.pair {nt ar sl ft it : Nat} {v : Value} (E : NumTy P nt ar sl ft it) (h : Arg enc P W base ar v) : ∃ a b, v = .agg #[.int .i64 a, .int .i64 b] ∧ I64R a ∧ I64R b := by
  obtain ⟨cs, rfl⟩ : ∃ cs, v = .agg cs := by
    have h1 := h.1
    unfold Value.okWide at h1
    rw [E.ua] at h1
    obtain ⟨cs, e, _⟩ := h1
    exact ⟨cs, e⟩
  obtain ⟨d, p, f, h2⟩ := h.2
  obtain ⟨a, b, e, ha, hb⟩ := E.pair h2
  have e' : cs.toList = [.int .i64 a, .int .i64 b] := by simpa [Value.cells] using e
  exact ⟨a, b, by rw [show cs = cs.toList.toArray from rfl, e'], ha, hb⟩
theorem glob_of {t e : Nat} {W : World} {name : String} {laid : List (String × DataW Unit)} {d : DataW Unit} {zs : List Int} {m : Nat} (hh : (laid.all fun x => x.2.handleName?.isNone) = true) (hlaid : laid = [(name, d)]) (hd : d = .agg (zs.map fun z => .lit (.int .u32 z))) (hz : zs.length = m)
    (hg : P.globalNamed name = some 0) (ht : (P.globals[0]?).map (·.type) = some t) (hg0 : Nat.blt 0 P.globals.size = true) (hbegin : ((((begin P (fun _ _ => 0) default).world.heap[0]?).bind Obj.row?).map (·.2)) = some t)
    (hu : P.underlying t = some (.array m e)) (he : P.underlying e = some (.int .u32)) (hc : P.cellsOf e = 1) (hct : P.cellsOf t = m)
    (h : laidMetH P laid W) (hsh : W.ShapedOpen P) : (glob 0 (zs.map (.int .u32 ·)).toArray t).on (fun b => b < W.heap.size) W := by
  rw [MakeChecks.laidMetH_plain _ _ _ hh] at h
  obtain ⟨ps, hp, _, _⟩ := h
  rw [hlaid] at hp
  obtain ⟨g, t', cs, fuel, p, q, hg', ht', hv, hd', _, _⟩ := hp
  obtain rfl := Option.some.inj (hg.symm.trans hg')
  obtain rfl := Option.some.inj (ht.symm.trans ht')
  rw [hd] at hd'
  have hcs := u32s_of hu he hc hz hd' hct
  cases hz0 : ((begin P (fun _ _ => 0) default).world.heap[0]?).bind Obj.row? with
  | none => rw [hz0] at hbegin; simp at hbegin
  | some zt =>
    obtain ⟨zero, t''⟩ := zt
    rw [hz0] at hbegin
    have : t'' = t := by simpa using hbegin
    subst this
    obtain ⟨cs', hheap, _⟩ := hsh.1 0 zero t'' (Nat.le_of_ble_eq_true hg0) hz0
    unfold World.var? at hv
    rw [hg] at hv
    simp only [Option.bind_some, hheap, Option.some.injEq] at hv
    subst hv
    refine ⟨(Array.getElem?_eq_some_iff.1 hheap).1, (0, 0), ?_⟩
    rw [hheap, ← hcs]
end
end Go.TL
end
section
/- Arguments that are wishes, lists of proxies and lists of strings, as they are read. No program is named here. -/
set_option linter.unusedVariables false
set_option linter.unusedSimpArgs false
namespace Go.TL
open Go.ChangeShapes Go.WideShapes Go.RowKit
section
variable {H : Type} {enc : TypeId × Value → H} {P : Program} {W : World} {base : Nat}
structure WTy (P : Program) (wt pt rg sp it st ps ks : Nat) : Prop where
  uw : (P.underlying wt).bind structL = some [(it, 0), (it, 1), (rg, 2), (it, 4), (it, 5), (sp, 6), (st, 8)]
  up : (P.underlying pt).bind structL = some [(it, 0), (it, 1), (rg, 2), (sp, 4), (st, 6)]
  ur : (P.underlying rg).bind structL = some [(it, 0), (it, 1)]
  us : (P.underlying sp).bind structL = some [(it, 0), (it, 1)]
  ui : P.underlying it = some (.int .i64)
  ut : P.underlying st = some .string
  ups : P.underlying ps = some (.slice pt)
  uks : P.underlying ks = some (.slice st)
  cw : P.cellsOf wt = 9
  cp : P.cellsOf pt = 7
  cr : P.cellsOf rg = 2
  cs : P.cellsOf sp = 2
  ci : P.cellsOf it = 1
  ct : P.cellsOf st = 1
theorem lst9 {α : Type} {l : List α} (h : l.length = 9) : ∃ a b c d e f g i j, l = [a, b, c, d, e, f, g, i, j] := by
  match l, h with
  | [a, b, c, d, e, f, g, i, j], _ => exact ⟨a, b, c, d, e, f, g, i, j, rfl⟩
theorem lst7 {α : Type} {l : List α} (h : l.length = 7) : ∃ a b c d e f g, l = [a, b, c, d, e, f, g] := by
  match l, h with
  | [a, b, c, d, e, f, g], _ => exact ⟨a, b, c, d, e, f, g, rfl⟩
variable {wt pt rg sp it st ps ks : Nat} {spare : Nat} {held : Nat → Bool}
theorem two_of {w : World} {t fuel : Nat} {cs : List Value} {x : DataW H × List MemPlace} (hu : (P.underlying t).bind structL = some [(it, 0), (it, 1)]) (hi : P.underlying it = some (.int .i64)) (hci : P.cellsOf it = 1) (hc : P.cellsOf t = 2) {sp' : Nat} {b1 : Bool} {hd : Nat → Bool} (h : DataW.trod enc P w 0 hd b1 fuel t cs = some x) : ∃ a b, cs = [.int .i64 a, .int .i64 b] := by
  obtain ⟨n, h1, h2⟩ := trod_fields hu h
  rw [hc] at h1
  obtain ⟨c0, c1, rfl⟩ := lst2 h1
  obtain ⟨y0, k0⟩ := h2 0 (Nat.le_of_ble_eq_true rfl)
  obtain ⟨y1, k1⟩ := h2 1 (Nat.le_of_ble_eq_true rfl)
  simp only [List.getElem_cons_zero, List.getElem_cons_succ, hci] at k0 k1
  obtain ⟨a, e0, w0⟩ := trod_i64 hi k0
  obtain ⟨b, e1, w1⟩ := trod_i64 hi k1
  simp at e0 e1
  exact ⟨a, b, by rw [e0, e1]⟩
theorem WTy.wish (E : WTy P wt pt rg sp it st ps ks) {w : World} {fuel : Nat} {cs : List Value} {x : DataW H × List MemPlace} {b1 : Bool} {hd : Nat → Bool} (h : DataW.trod enc P w 0 hd b1 fuel wt cs = some x) : ∃ u : Wish, cs = wishL u := by
  obtain ⟨n, h1, h2⟩ := trod_fields E.uw h
  rw [E.cw] at h1
  obtain ⟨c0, c1, c2, c3, c4, c5, c6, c7, c8, rfl⟩ := lst9 h1
  obtain ⟨y0, k0⟩ := h2 0 (Nat.le_of_ble_eq_true rfl)
  obtain ⟨y1, k1⟩ := h2 1 (Nat.le_of_ble_eq_true rfl)
  obtain ⟨y2, k2⟩ := h2 2 (Nat.le_of_ble_eq_true rfl)
  obtain ⟨y3, k3⟩ := h2 3 (Nat.le_of_ble_eq_true rfl)
  obtain ⟨y4, k4⟩ := h2 4 (Nat.le_of_ble_eq_true rfl)
  obtain ⟨y5, k5⟩ := h2 5 (Nat.le_of_ble_eq_true rfl)
  obtain ⟨y6, k6⟩ := h2 6 (Nat.le_of_ble_eq_true rfl)
  simp only [List.getElem_cons_zero, List.getElem_cons_succ, E.ci, E.cr, E.cs, E.ct] at k0 k1 k2 k3 k4 k5 k6
  obtain ⟨a0, e0, _⟩ := trod_i64 E.ui k0
  obtain ⟨a1, e1, _⟩ := trod_i64 E.ui k1
  obtain ⟨a2, b2, e2⟩ := two_of (sp' := 0) E.ur E.ui E.ci E.cr k2
  obtain ⟨a3, e3, _⟩ := trod_i64 E.ui k3
  obtain ⟨a4, e4, _⟩ := trod_i64 E.ui k4
  obtain ⟨a5, b5, e5⟩ := two_of (sp' := 0) E.us E.ui E.ci E.cs k5
  obtain ⟨a6, e6, _⟩ := trod_str E.ut k6
  simp at e0 e1 e2 e3 e4 e5 e6
  refine ⟨⟨a0, a1, a2, b2, a3, a4, a5, b5, a6⟩, ?_⟩
  rw [e0, e1, e2.1, e2.2, e3, e4, e5.1, e5.2, e6]
  rfl
theorem WTy.proxy (E : WTy P wt pt rg sp it st ps ks) {w : World} {fuel : Nat} {cs : List Value} {x : DataW H × List MemPlace} {b1 : Bool} {hd : Nat → Bool} (h : DataW.trod enc P w 0 hd b1 fuel pt cs = some x) : ∃ u : Proxy, cs = proxyL u ∧ True := by
  obtain ⟨n, h1, h2⟩ := trod_fields E.up h
  rw [E.cp] at h1
  obtain ⟨c0, c1, c2, c3, c4, c5, c6, rfl⟩ := lst7 h1
  obtain ⟨y0, k0⟩ := h2 0 (Nat.le_of_ble_eq_true rfl)
  obtain ⟨y1, k1⟩ := h2 1 (Nat.le_of_ble_eq_true rfl)
  obtain ⟨y2, k2⟩ := h2 2 (Nat.le_of_ble_eq_true rfl)
  obtain ⟨y3, k3⟩ := h2 3 (Nat.le_of_ble_eq_true rfl)
  obtain ⟨y4, k4⟩ := h2 4 (Nat.le_of_ble_eq_true rfl)
  simp only [List.getElem_cons_zero, List.getElem_cons_succ, E.ci, E.cr, E.cs, E.ct] at k0 k1 k2 k3 k4
  obtain ⟨a0, e0, _⟩ := trod_i64 E.ui k0
  obtain ⟨a1, e1, _⟩ := trod_i64 E.ui k1
  obtain ⟨a2, b2, e2⟩ := two_of (sp' := 0) E.ur E.ui E.ci E.cr k2
  obtain ⟨a5, b5, e5⟩ := two_of (sp' := 0) E.us E.ui E.ci E.cs k3
  obtain ⟨a6, e6, _⟩ := trod_str E.ut k4
  simp at e0 e1 e2 e5 e6
  refine ⟨⟨a0, a1, a2, b2, a5, b5, a6⟩, ?_, trivial⟩
  rw [e0, e1, e2.1, e2.2, e5.1, e5.2, e6]
  rfl
theorem Arg.wish (E : WTy P wt pt rg sp it st ps ks) {v : Value} (h : Arg enc P W base wt v) : ∃ u : Wish, v = wishV u := by
  obtain ⟨cs, rfl⟩ := h.agg E.uw
  obtain ⟨d, p, f, h2⟩ := h.2
  obtain ⟨u, e⟩ := E.wish h2
  have e' : cs.toList = wishL u := by simpa [Value.cells] using e
  exact ⟨u, by rw [wishV, wishC, ← e']⟩
theorem Arg.proxies (E : WTy P wt pt rg sp it st ps ks) {v : Value} (h : Arg enc P W base ps v) : ∃ (A : Option Addr) (m cap : Nat) (l : List Proxy), v = .slice A m cap ∧ m = l.length ∧ l.length ≤ cap ∧ cap ≤ 9223372036854775807 ∧ (slc proxyL 7 A l).on (fun b => b < W.heap.size) W := by
  obtain ⟨a, n, c, rfl⟩ := okWide_slice E.ups h.1
  obtain ⟨d, p, f, h2⟩ := h.2
  obtain ⟨A, len, cap, ys, e, hlen, hl, hc, _, hon⟩ := trod_slc (e := proxyL) (Pα := fun _ => True) E.ups E.cp (by decide) (fun _ => rfl) (fun _ _ _ h => E.proxy h) h2
  have e' : Value.slice a n c = .slice A len cap := by simpa [Value.cells] using e
  exact ⟨A, len, cap, ys, e', hlen, by omega, hc, hon⟩
theorem Arg.strs (E : WTy P wt pt rg sp it st ps ks) {v : Value} (h : Arg enc P W base ks v) : ∃ (A : Option Addr) (m cap : Nat) (l : List Bytes), v = .slice A m cap ∧ m = l.length ∧ l.length ≤ cap ∧ cap ≤ 9223372036854775807 ∧ (∀ i (h : i < l.length), (l[i]'h).length ≤ 9223372036854775807) ∧ (slc eStr 1 A l).on (fun b => b < W.heap.size) W := by
  obtain ⟨a, n, c, rfl⟩ := okWide_slice E.uks h.1
  obtain ⟨d, p, f, h2⟩ := h.2
  obtain ⟨A, len, cap, ys, e, hlen, hl, hc, hP, hon⟩ := trod_slc (e := eStr) (Pα := fun l => l.length ≤ 9223372036854775807) E.uks E.ct (by decide) (fun _ => rfl) (fun _ _ _ h => trod_str E.ut h) h2
  have e' : Value.slice a n c = .slice A len cap := by simpa [Value.cells] using e
  exact ⟨A, len, cap, ys, e', hlen, by omega, hc, hP, hon⟩
end
end Go.TL
end
section
/- What every card of this seat leans on: the types of the arguments, the listed variable. -/
set_option linter.unusedVariables false
set_option linter.unusedSimpArgs false
set_option maxRecDepth 100000
namespace Go.Proofs.YtlcbpicpociipaaGreatDoor
open Go Go.TL Go.ChangeShapes Go.WideShapes Go.RowKit
theorem Tryz.own : ownKnob Tryz.prog.godebug = none := by kernel_rfl
theorem Tryz.laidOut : laidOutB Tryz.prog = true := by kernel_rfl
theorem Tryz.tyI : Tryz.prog.underlying 3 = some (.int .i64) := by kernel_rfl
theorem Tryz.tyB : Tryz.prog.underlying 4 = some .bool := by kernel_rfl
theorem Tryz.numTy : NumTy Tryz.prog 25 22 23 77 3 := ⟨by kernel_rfl, by kernel_rfl, by kernel_rfl, by kernel_rfl, by kernel_rfl, by kernel_rfl, by kernel_rfl, by kernel_rfl, by kernel_rfl, by kernel_rfl⟩
theorem Tryz.wTy : WTy Tryz.prog 30 40 27 28 3 9 31 32 := ⟨by kernel_rfl, by kernel_rfl, by kernel_rfl, by kernel_rfl, by kernel_rfl, by kernel_rfl, by kernel_rfl, by kernel_rfl, by kernel_rfl, by kernel_rfl, by kernel_rfl, by kernel_rfl, by kernel_rfl, by kernel_rfl⟩
abbrev laidC : List (String × DataW Unit) := [("dialtone/digest.round", Rows.laid_dialtone_digest_round)]
def roundZ : List Int := shaK.map fun x => (x.toNat : Int)
theorem round_eq : (roundZ.map (.int .u32 ·)).toArray = roundC := by kernel_rfl
theorem round_datum : (Rows.laid_dialtone_digest_round : DataW Unit) = .agg (roundZ.map fun z => .lit (.int .u32 z)) := by kernel_rfl
theorem glob_round {W : World} (h : laidMetH Tryz.prog laidC W) (hsh : W.ShapedOpen Tryz.prog) : (glob 0 roundC 162).on (fun b => b < W.heap.size) W := by
  have := glob_of (P := Tryz.prog) (t := 162) (e := 137) (m := 64) (zs := roundZ) (by kernel_rfl) rfl round_datum (by kernel_rfl) (by kernel_rfl) (by kernel_rfl) (by kernel_rfl) (by kernel_rfl) (by kernel_rfl) (by kernel_rfl) (by kernel_rfl) (by kernel_rfl) h hsh
  rwa [round_eq] at this
end Go.Proofs.YtlcbpicpociipaaGreatDoor
end
section
/- Panics, deferred calls, recover, for the walks. No program is named here. -/
set_option linter.unusedVariables false
set_option linter.unusedSimpArgs false
namespace Go.TL
/-- What a call does that may panic with a value. -/
def CtrXPost {γ : Type} (S : Nat → Prop) (w : World) (φ : γ → Prop) (val : γ → Value) (post : γ → List Asn) (ψ : Prop) (pv : Value) (e : Ending) (w' : World) : Prop :=
  CtrPost S w φ val post e w' ∨ (ψ ∧ e = .panicked [{ v := pv, recovered := false }] ∧ Ok S w w')
def CtrX (P : Program) (g : FuncId) (args : Array Value) (G A : List Asn) {γ : Type} (φ : γ → Prop) (val : γ → Value) (post : γ → List Asn) (ψ : Prop) (pv : Value) : Prop :=
  ∀ (w : World) (S : Nat → Prop), (∀ X ∈ G, X.on (fun b => b < w.heap.size ∧ ¬ S b) w) → Seps A S w → (∀ b, S b → b < w.heap.size) → Calls P g args w (CtrXPost S w φ val post ψ pv)
section
variable {P : Program} {r : Option Nat} {n : Nat} {ds : List Deferred} {S0 : Nat → Prop} {w0 : World} {G L L' R : List Asn} {f : Env} {Q : Exit → Act → World → Prop} {ops : Array Oper} {rest : List Oper}
  {d : Option Tmp} {ty : TypeId} {pos : String} {aft : Array Edge} {ρ : Operand → Value} {g : Option (Nat × Bool)}
theorem CtrX.intro {γ : Type} {φ : γ → Prop} {val : γ → Value} {post : γ → List Asn} {ψ : Prop} {pv : Value} {g : FuncId} {args : Array Value} {G A : List Asn} {fn : Func} {c : Code} (hf : P.funcs[g]? = some fn) (hb : fn.body = some c) {n : Nat} (hm : fn.ntmps = n)
    (hn : args.size ≤ n) (h : ∀ (S0 : Nat → Prop) (w0 : World), T P none n [] S0 w0 G (bodyPost P fn (CtrXPost S0 w0 φ val post ψ pv)) c A (fr0 args)) : CtrX P g args G A φ val post ψ pv := fun w S hG hA hlt => by
  subst hm
  refine calls_of_wp hf hb ?_
  rw [act_enter _ _ hn]
  refine (wpIn_wide (n := 0)).1 (h S w w ⟨Ok.refl S w, hlt, fun X hX => X.keep (fun b hb => ⟨hb, rfl⟩) (hG X hX), hA.keep fun b hb => ⟨.inl hb, rfl⟩⟩)
theorem TQ.doneX {γ : Type} {φ : γ → Prop} {val : γ → Value} {post : γ → List Asn} {ψ : Prop} {pv : Value} {fn : Func} {v : Value} (x : γ) (hφ : φ x) (hv : val x = v) (hp : ∀ S w, Seps L S w → Seps (post x) S w)
    (hr : ∀ w, St S0 w0 G L w → (results fn (act n f []).tmps).run P w = .ok v w) (e : Exit) (he : e = .ret ∨ e = .normal) :
    TQ n [] S0 w0 G (bodyPost P fn (CtrXPost S0 w0 φ val post ψ pv)) e L f := fun w hw => by
  have h : (act n f []).defers = [] ∧ ∃ v, (results fn (act n f []).tmps).run P w = .ok v w ∧ CtrXPost S0 w0 φ val post ψ pv (.returned v) w :=
    ⟨rfl, v, hr w hw, .inl ⟨x, hφ, by rw [hv], hw.ok, hp _ _ hw.mem⟩⟩
  rcases he with rfl | rfl <;> exact h
theorem TQ.panicX {γ : Type} {φ : γ → Prop} {val : γ → Value} {post : γ → List Asn} {ψ : Prop} {pv : Value} {fn : Func} (hψ : ψ) :
    TQ n [] S0 w0 G (bodyPost P fn (CtrXPost S0 w0 φ val post ψ pv)) (.panic [{ v := pv, recovered := false }]) L f := fun w hw => ⟨rfl, .inr ⟨hψ, rfl, hw.ok⟩⟩
theorem TQ.then_panic {K : Act → World → Prop} {ch : List PanicEntry} (h : TQ n ds S0 w0 G Q (.panic ch) L f) : TQ n ds S0 w0 G (Exit.then K Q) (.panic ch) L f := h
theorem TQ.block_panic {id : Nat} {ch : List PanicEntry} (h : TQ n ds S0 w0 G Q (.panic ch) L f) : TQ n ds S0 w0 G (Exit.inBlock id Q) (.panic ch) L f := h
theorem TO.panic {x : Operand} {t : TypeId} {v : Value} (hx : ev n f x = .iface t v) (h : TQ n ds S0 w0 G Q (.panic [{ v := .iface t v, recovered := false }]) L f) :
    TO P r n ds S0 w0 G ops Q (⟨d, .panic x, ty, pos, aft, none⟩ :: rest) L f := fun w hw => by
  have hw' : Region.wanted ⟨d, .panic x, ty, pos, aft, none⟩ (yielded ops (act n f ds).tmps) = true := rfl
  simp only [wpL, hw', if_true]
  refine ⟨fun _ _ => trivial, ?_⟩
  rw [Oper.semAt_eq _ _ _ (fun c h => by cases h), act_eval]
  have he : (execOp (ev n f) ⟨d, .panic x, ty, pos, aft, none⟩).run P w = .halt (.panic (.iface t v)) w := by
    simp [execOp, hx, Instr.panic]
  rw [he, Oper.uponIn_panic]
  exact h w hw
theorem rd_makeIface {x : Operand} {t : TypeId} {v : Value} {td : TypeDesc} (ht : P.underlying t = some td) (hn : ∀ ms, td ≠ .interface ms) (hx : ρ x = v) : Reads P G L ⟨d, .makeInterface t x, ty, pos, aft, g⟩ ρ (.iface t v) := .of (fun c h => by cases h) fun w => by
  simp only [execOp, Instr.makeInterface, hx, Sem.run_bind, run_underlying ht, Result.andThen_ok]
  cases td <;> first | rfl | exact absurd rfl (hn _)
/-- A call that may panic. -/
theorem TO.handX {γ : Type} {φ : γ → Prop} {val : γ → Value} {post : γ → List Asn} {ψ : Prop} {pv : Value} {g : FuncId} {x : Operand} {args : Array Value} {asx : Array Operand} {ats : Array TypeId} {G' A R : List Asn}
    (he : Enters P g) (hx : ev n f x = .func (.func g) #[] #[]) (hc : CtrX P g args G' A φ val post ψ pv) (ha : (asx.toList.map (ev n f)).toArray = args)
    (hL : L = A ++ R) (hG : ∀ X ∈ G', Has G R X)
    (hp : ψ → TQ n ds S0 w0 G Q (.panic [{ v := pv, recovered := false }]) R f)
    (h : ∀ x, φ x → TO P r n ds S0 w0 G ops Q rest (post x ++ R) (put f d (val x))) :
    TO P r n ds S0 w0 G ops Q (⟨d, .call ⟨.value x, asx, ats⟩, ty, pos, aft, none⟩ :: rest) L f := fun w hw => by
  have hw' : Region.wanted ⟨d, .call ⟨.value x, asx, ats⟩, ty, pos, aft, none⟩ (yielded ops (act n f ds).tmps) = true := rfl
  simp only [wpL, hw', if_true]
  refine ⟨fun _ _ => trivial, ?_⟩
  have hm := map_vs (fs := []) (cap := []) (asx := asx) (ρ := ev n f) rfl
  simp only [List.nil_append, List.append_nil] at hm
  rw [Oper.semAt_eq _ _ _ (fun c h => by cases h), act_eval, run_call_value he hx, hm, ha, Oper.uponIn_enter]
  refine ⟨fun h => by simp [Wd_depth] at h, callsIn_Wd.2 ?_⟩
  subst hL
  obtain ⟨S1, hlt, hA, hX, hj⟩ := hw.open_
  refine (hc w S1 (fun X hX' => hX X (hG X hX')) hA hlt).mono ?_
  rintro e w' (⟨x, hφ, rfl, hok, hm⟩ | ⟨hψ, rfl, hok⟩)
  · show wpL P r ops Q rest ((act n f ds).put d (val x)) w'
    rw [act_put]
    exact h x hφ w' (hj w' _ hok hm)
  · exact hp hψ w' (hj w' [] hok trivial)
theorem TO.defer {x : Operand} {g : FuncId} {cap : List Value} (hx : ev n f x = .func (.func g) #[] cap.toArray)
    (h : TO P none n (⟨.fn (.func g) cap.toArray, #[]⟩ :: ds) S0 w0 G ops Q rest L (put f d undef)) :
    TO P none n ds S0 w0 G ops Q (⟨d, .defer ⟨.value x, #[], #[]⟩, ty, pos, aft, none⟩ :: rest) L f := fun w hw => by
  have hw' : Region.wanted ⟨d, .defer ⟨.value x, #[], #[]⟩, ty, pos, aft, none⟩ (yielded ops (act n f ds).tmps) = true := rfl
  simp only [wpL, hw', if_true]
  refine ⟨fun _ _ => trivial, ?_⟩
  rw [Wd_round, Oper.semAt_none, act_eval]
  have he : (execOp (ev n f) ⟨d, .defer ⟨.value x, #[], #[]⟩, ty, pos, aft, none⟩).run P w = .ok (.defer ⟨.fn (.func g) cap.toArray, #[]⟩) w := by
    simp only [execOp, resolve, hx, Deferred.ofValue, Sem.run_bind, Sem.run_pure, Result.andThen_ok]
    simp
  rw [he, Oper.uponIn_defer]
  have e : ({ act n f ds with defers := ⟨.fn (.func g) cap.toArray, #[]⟩ :: (act n f ds).defers } : Act) = act n f (⟨.fn (.func g) cap.toArray, #[]⟩ :: ds) := rfl
  rw [e, act_put]
  exact h w hw
theorem Ctr.introD {γ : Type} {φ : γ → Prop} {val : γ → Value} {post : γ → List Asn} {g : FuncId} {args : Array Value} {G A : List Asn} {fn : Func} {c : Code} (hf : P.funcs[g]? = some fn) (hb : fn.body = some c) {n : Nat} (hm : fn.ntmps = n)
    (hn : args.size ≤ n) (h : ∀ (S0 : Nat → Prop) (w0 : World), T P none n [] S0 w0 G (bodyPostD P fn (CtrPost S0 w0 φ val post)) c A (fr0 args)) : Ctr P g args G A φ val post := fun w S hG hA hlt => by
  subst hm
  refine calls_of_wp_defers hf hb ?_
  rw [act_enter _ _ hn]
  refine (wpIn_wide (n := 0)).1 (h S w w ⟨Ok.refl S w, hlt, fun X hX => X.keep (fun b hb => ⟨hb, rfl⟩) (hG X hX), hA.keep fun b hb => ⟨.inl hb, rfl⟩⟩)
/-- A deferred call of a function that recovers: where nothing is wrong. -/
def CalmD (P : Program) (g : FuncId) (args : Array Value) : Prop := ∀ w, CallsD P g args .returning w (fun e u' w' => (∃ v, e = .returned v) ∧ u' = .returning ∧ Ok (fun _ => False) w w')
/-- .. and in a panic: pieces A become B. -/
def Mends (P : Program) (g : FuncId) (args : Array Value) (pv : Value) (A B : List Asn) : Prop := ∀ (w : World) (S : Nat → Prop), Seps A S w → (∀ b, S b → b < w.heap.size) →
  CallsD P g args (.panicking [{ v := pv, recovered := false }]) w (fun e u' w' => (∃ v, e = .returned v) ∧ u' = .panicking [{ v := pv, recovered := true }] ∧ Ok S w w' ∧ Seps B (fun b => S b ∨ (w.heap.size ≤ b ∧ b < w'.heap.size)) w')
theorem TQ.doneD {γ : Type} {φ : γ → Prop} {val : γ → Value} {post : γ → List Asn} {fn : Func} {v : Value} {g : FuncId} {cap : List Value} (he : Enters P g) (hc : CalmD P g cap.toArray) (x : γ) (hφ : φ x) (hv : val x = v) (hp : ∀ S w, Seps L S w → Seps (post x) S w)
    (hr : ∀ w, St S0 w0 G L w → (results fn (act n f [⟨.fn (.func g) cap.toArray, #[]⟩]).tmps).run P w = .ok v w) (e : Exit) (hee : e = .ret ∨ e = .normal) :
    TQ n [⟨.fn (.func g) cap.toArray, #[]⟩] S0 w0 G (bodyPostD P fn (CtrPost S0 w0 φ val post)) e L f := fun w hw => by
  have h : Leaves P fn (act n f [⟨.fn (.func g) cap.toArray, #[]⟩]).tmps (CtrPost S0 w0 φ val post) [⟨.fn (.func g) cap.toArray, #[]⟩] .returning w := by
    refine leaves_cons (f := g) (args := cap.toArray) (by simp) (by simp [invoke, he _ w]) ((hc w).mono ?_)
    rintro e u' w' ⟨⟨u, rfl⟩, rfl, hok⟩
    obtain ⟨S1, hlt, _, _, hj⟩ := St.open_ (A := []) (R := L) hw
    have hst : St S0 w0 G L w' := hj w' [] ⟨hok.size, fun b hb _ => hok.block b hb (fun h => h), hok.os, hok.tape, hok.output⟩ trivial
    exact ⟨v, hr w' hst, x, hφ, by rw [hv], hst.ok, hp _ _ hst.mem⟩
  rcases hee with rfl | rfl <;> exact h
theorem TQ.panicD {γ : Type} {φ : γ → Prop} {val : γ → Value} {post : γ → List Asn} {fn : Func} {v pv : Value} {g : FuncId} {cap : List Value} {A B : List Asn} (he : Enters P g) (hc : Mends P g cap.toArray pv A B) (hL : L = A ++ R) (x : γ) (hφ : φ x) (hv : val x = v) (hp : ∀ S w, Seps (B ++ R) S w → Seps (post x) S w)
    (hr : ∀ w, St S0 w0 G (B ++ R) w → (results fn (act n f [⟨.fn (.func g) cap.toArray, #[]⟩]).tmps).run P w = .ok v w) :
    TQ n [⟨.fn (.func g) cap.toArray, #[]⟩] S0 w0 G (bodyPostD P fn (CtrPost S0 w0 φ val post)) (.panic [{ v := pv, recovered := false }]) L f := fun w hw => by
  subst hL
  obtain ⟨S1, hlt, hA, hX, hj⟩ := hw.open_
  show Leaves P fn (act n f [⟨.fn (.func g) cap.toArray, #[]⟩]).tmps (CtrPost S0 w0 φ val post) [⟨.fn (.func g) cap.toArray, #[]⟩] (.panicking [{ v := pv, recovered := false }]) w
  refine leaves_cons (f := g) (args := cap.toArray) (by simp) (by simp [invoke, he _ w]) ((hc w S1 hA hlt).mono ?_)
  rintro e u' w' ⟨⟨u, rfl⟩, rfl, hok, hm⟩
  have hst := hj w' _ hok hm
  exact ⟨v, hr w' hst, x, hφ, by rw [hv], hst.ok, hp _ _ hst.mem⟩
def notIfaceB (td : TypeDesc) : Bool := match td with | .interface _ => false | _ => true
def NotIface (P : Program) (t : TypeId) : Prop := (P.underlying t).any notIfaceB = true
theorem NotIface.ex {t : TypeId} (h : NotIface P t) : ∃ td, P.underlying t = some td ∧ ∀ ms, td ≠ .interface ms := by
  unfold NotIface at h
  cases e : P.underlying t with
  | none => rw [e] at h; cases h
  | some td => rw [e] at h; exact ⟨td, rfl, fun ms hm => by subst hm; cases h⟩
theorem rd_makeIface' {x : Operand} {t : TypeId} {v : Value} (ht : NotIface P t) (hx : ρ x = v) : Reads P G L ⟨d, .makeInterface t x, ty, pos, aft, g⟩ ρ (.iface t v) := by
  obtain ⟨td, h1, h2⟩ := ht.ex
  exact rd_makeIface h1 h2 hx
theorem rd_assert {x : Operand} {xt t : TypeId} {v : Value} {td : TypeDesc} (ht : P.underlying t = some td) (hn : ∀ ms, td ≠ .interface ms) (hx : ρ x = .iface t v) : Reads P G L ⟨d, .typeAssert x xt t true, ty, pos, aft, g⟩ ρ (.tuple #[v, .bool true]) := .of (fun c h => by cases h) fun w => by
  simp only [execOp, Instr.typeAssert, hx, Sem.run_bind, run_underlying ht, Result.andThen_ok]
  cases td <;> first | simp | exact absurd rfl (hn _)
theorem rd_assert' {x : Operand} {xt t : TypeId} {v : Value} (ht : NotIface P t) (hx : ρ x = .iface t v) : Reads P G L ⟨d, .typeAssert x xt t true, ty, pos, aft, g⟩ ρ (.tuple #[v, .bool true]) := by
  obtain ⟨td, h1, h2⟩ := ht.ex
  exact rd_assert h1 h2 hx
/-! ### recover -/
theorem S_recover {id : Nat} {d : Tmp} {c₀ : Frame} {cs cs' : List Frame} {v : Value} {Q : Exit → Act → List Frame → World → Prop} {w : World} (hm : recoverD (c₀ :: cs) = some (v, cs')) (h : Q .normal (act n (upd f d v) ds) cs' w) :
    (Code.region id #[⟨some d, .call ⟨.builtin .recover, #[], #[]⟩, ty, pos, aft, none⟩] false).wpS P Q (act n f ds) (c₀ :: cs) w := by
  refine wpS_region ?_
  have he : (execOp (act n f ds).eval ⟨some d, .call ⟨.builtin .recover, #[], #[]⟩, ty, pos, aft, none⟩).run P w = .ok .recover w := by
    simp [execOp, resolve, invoke, builtin]
  have hr : List.range (#[(⟨some d, .call ⟨.builtin .recover, #[], #[]⟩, ty, pos, aft, none⟩ : Oper)]).size = [0] := rfl
  rw [hr]
  simp only [wpOpsS, List.getElem?_toArray, List.getElem?_cons_zero, Region.wanted, if_true, he, hm]
  rw [act_put_some]
  exact h
theorem S_recover_nil {id : Nat} {d : Tmp} {c₀ : Frame} {cs : List Frame} {Q : Exit → Act → List Frame → World → Prop} {w : World} (hm : recoverD (c₀ :: cs) = none) (h : Q .normal (act n (upd f d .nilIface) ds) (c₀ :: cs) w) :
    (Code.region id #[⟨some d, .call ⟨.builtin .recover, #[], #[]⟩, ty, pos, aft, none⟩] false).wpS P Q (act n f ds) (c₀ :: cs) w := by
  refine wpS_region ?_
  have he : (execOp (act n f ds).eval ⟨some d, .call ⟨.builtin .recover, #[], #[]⟩, ty, pos, aft, none⟩).run P w = .ok .recover w := by
    simp [execOp, resolve, invoke, builtin]
  have hr : List.range (#[(⟨some d, .call ⟨.builtin .recover, #[], #[]⟩, ty, pos, aft, none⟩ : Oper)]).size = [0] := rfl
  rw [hr]
  simp only [wpOpsS, List.getElem?_toArray, List.getElem?_cons_zero, Region.wanted, if_true, he, hm]
  rw [act_put_some]
  exact h
theorem CalmD.intro {g : FuncId} {args : Array Value} {fn : Func} {id : Nat} {d : Tmp} {c : Code} (hf : P.funcs[g]? = some fn) (hb : fn.body = some (.seq (.region id #[⟨some d, .call ⟨.builtin .recover, #[], #[]⟩, ty, pos, aft, none⟩] false) c)) {n : Nat} (hm : fn.ntmps = n) (hn : args.size ≤ n) (hres : fn.results = #[])
    (h : ∀ (w0 : World), T P none n [] (fun _ => False) w0 [] (fun e a w => (e = .normal ∨ e = .ret) ∧ a.defers = [] ∧ Ok (fun _ => False) w0 w) c [] (upd (fr0 args) d .nilIface)) : CalmD P g args := fun w => by
  subst hm
  refine callsD_of_wpS hf hb fun c₀ cs hu => ?_
  rw [act_enter _ _ hn]
  refine wpS_seq (S_recover_nil (by simp [recoverD, hu]) ?_)
  refine wpS_of_wp ((wpIn_wide (n := 0)).1 (wpIn_mono (h w w ⟨Ok.refl _ w, fun _ h => h.elim, fun X hX => (nomatch hX), trivial⟩) ?_))
  rintro e a w' ⟨he, hd, hok⟩
  have hr := run_results (P := P) (tmps := a.tmps) (w := w') (l := []) (vs := []) hres rfl (fun i h => by simp at h)
  have : bodyPostS P fn c₀ cs (fun e u' w'' => (∃ v, e = .returned v) ∧ u' = .returning ∧ Ok (fun _ => False) w w'') .normal a (c₀ :: cs) w' := ⟨hd, .returning, by rw [← hu], _, hr, ⟨_, rfl⟩, rfl, hok⟩
  rcases he with rfl | rfl <;> exact this
theorem Mends.intro {g : FuncId} {args : Array Value} {fn : Func} {id : Nat} {d : Tmp} {c : Code} {pv : Value} {A B : List Asn} (hf : P.funcs[g]? = some fn) (hb : fn.body = some (.seq (.region id #[⟨some d, .call ⟨.builtin .recover, #[], #[]⟩, ty, pos, aft, none⟩] false) c)) {n : Nat} (hm : fn.ntmps = n) (hn : args.size ≤ n) (hres : fn.results = #[])
    (h : ∀ (S0 : Nat → Prop) (w0 : World), T P none n [] S0 w0 [] (fun e a w => (e = .normal ∨ e = .ret) ∧ a.defers = [] ∧ Ok S0 w0 w ∧ Seps B (Area S0 w0 w) w) c A (upd (fr0 args) d pv)) : Mends P g args pv A B := fun w S hA hlt => by
  subst hm
  refine callsD_of_wpS hf hb fun c₀ cs hu => ?_
  rw [act_enter _ _ hn]
  refine wpS_seq (S_recover (v := pv) (cs' := { c₀ with mode := .panicking [{ v := pv, recovered := true }] } :: cs) (by simp [recoverD, hu]) ?_)
  refine wpS_of_wp ((wpIn_wide (n := 0)).1 (wpIn_mono (h S w w ⟨Ok.refl _ w, hlt, fun X hX => (nomatch hX), hA.keep fun b hb => ⟨.inl hb, rfl⟩⟩) ?_))
  rintro e a w' ⟨he, hd, hok, hs⟩
  have hr := run_results (P := P) (tmps := a.tmps) (w := w') (l := []) (vs := []) hres rfl (fun i h => by simp at h)
  have : bodyPostS P fn c₀ cs (fun e u' w'' => (∃ v, e = .returned v) ∧ u' = .panicking [{ v := pv, recovered := true }] ∧ Ok S w w'' ∧ Seps B (fun b => S b ∨ (w.heap.size ≤ b ∧ b < w''.heap.size)) w'') .normal a ({ c₀ with mode := .panicking [{ v := pv, recovered := true }] } :: cs) w' := ⟨hd, _, rfl, _, hr, ⟨_, rfl⟩, rfl, hok, hs⟩
  rcases he with rfl | rfl <;> exact this
theorem TQ.calm {e : Exit} (he : e = .normal ∨ e = .ret) {w0 : World} : TQ n [] (fun _ => False) w0 G (fun e a w => (e = .normal ∨ e = .ret) ∧ a.defers = [] ∧ Ok (fun _ => False) w0 w) e L f := fun w hw => ⟨he, rfl, hw.ok⟩
theorem TQ.mends {e : Exit} {B : List Asn} (he : e = .normal ∨ e = .ret) (hL : ∀ S w, Seps L S w → Seps B S w) : TQ n [] S0 w0 G (fun e a w => (e = .normal ∨ e = .ret) ∧ a.defers = [] ∧ Ok S0 w0 w ∧ Seps B (Area S0 w0 w) w) e L f := fun w hw => ⟨he, rfl, hw.ok, hL _ _ hw.mem⟩
theorem rd_eqi_nil {x : Operand} {c : Value} {t t' : TypeId} {ms : Array (String × TypeId)} (ht : P.underlying t = some (.interface ms)) (hx : ρ x = .nilIface) (hy : ρ (.const c) = .nilIface) : Reads P G L ⟨d, .binOp .eql t x (.const c) t', ty, pos, aft, g⟩ ρ (.bool true) := .of (fun c h => by cases h) fun w => by
  have h : ∀ d : Nat, (Op.equalIn (d + 1) t .nilIface .nilIface).run P w = .ok true w := fun d => by simp [Op.equalIn, run_underlying ht]
  simp only [execOp, hx, hy, eqGuard_nil_constR, binOp]
  simp [Op.equal, Op.maxDepth, h 9999]
theorem rd_eqi_some {x y : Operand} {t t' q : TypeId} {v : Value} {ms : Array (String × TypeId)} (ht : P.underlying t = some (.interface ms)) (hx : ρ x = .iface q v) (hy : ρ y = .nilIface) : Reads P G L ⟨d, .binOp .eql t x y t', ty, pos, aft, g⟩ ρ (.bool false) := .of (fun c h => by cases h) fun w => by
  have h : ∀ d : Nat, (Op.equalIn (d + 1) t (.iface q v) .nilIface).run P w = .ok false w := fun d => by simp [Op.equalIn, run_underlying ht]
  have hg : (eqGuard .eql t x y (.iface q v) .nilIface).run P w = .ok () w := rfl
  simp only [execOp, hx, hy, binOp]
  simp [Op.equal, Op.maxDepth, h 9999, hg]
theorem TO.store_whole {x y : Operand} {b k t t' : Nat} {cs0 cs : List Value} (hs : ∀ w, (sizeOf t).run P w = .ok k w) (hx : ev n f x = .pointer (some ⟨b, 0, none⟩)) (hy : ev n f y = .agg cs.toArray) (hk : cs.length = k) (hk0 : cs0.length = k) (h1 : cs.all (·.oneCell') = true)
    (h : TO P r n ds S0 w0 G ops Q rest (own b cs.toArray t' :: R) f) :
    TO P r n ds S0 w0 G ops Q (⟨none, .store t x y, ty, pos, aft, none⟩ :: rest) (own b cs0.toArray t' :: R) f := TO.store_all hs hx hy hk hk0 h1 h
/-- A piece stored to itself, in a region that draws its order. -/
theorem DQ.self {L0 : List Asn} {f0 : Env} {m : Nat} {wrl : List (Nat × Nat)} {prl : List Nat} {j jj b k t t' : Nat} {F : Nat → Value} {x y : Operand} {cs : List Value} (hj : ops.toList[j]? = some ⟨none, .store t x y, ty, pos, aft, none⟩) (hs : ∀ w, (sizeOf t).run P w = .ok k w)
    (hx : ∀ g, ev n (mixV wrl prl F f0 j g) x = .pointer (some ⟨b, 0, none⟩)) (hy : ∀ g, ev n (mixV wrl prl F f0 j g) y = .agg cs.toArray) (hk : cs.length = k) (h1 : cs.all (·.oneCell') = true) (hL : L0[jj]? = some (own b cs.toArray t'))
    (h : DQ P r n ds S0 w0 G Q ops m wrl prl L0 f0 (j + 1) (upd F j undef)) : DQ P r n ds S0 w0 G Q ops m wrl prl L0 f0 j F :=
  DQ.put (by rw [← Array.getElem?_toList]; exact hj) undef (fun g M Q' h' => by
    have e : over cs.toArray 0 cs = cs.toArray := by simp [over]
    have hL' : (M ++ L0)[M.length + jj]? = some (own b cs.toArray t') := by rw [List.getElem?_append_right (by omega), Nat.add_sub_cancel_left]; exact hL
    refine TO.store (M.length + jj) (cells := cs.toArray) (cells' := cs.toArray) hs (hx g) (hy g) (by simpa [Value.cells] using hk) hL' (by simpa [Value.cells] using e) (by simp [hk]) (fun u hu => List.all_eq_true.1 h1 u (by simpa [Value.cells] using hu)) (L' := M ++ L0) ?_ h'
    apply List.ext_getElem?
    intro q
    rw [List.getElem?_set]
    split
    · rename_i hq
      subst hq
      split
      · exact hL'.symm
      · rename_i hlt
        rw [List.getElem?_eq_none (by omega)] at hL'
        cases hL'
    · rfl) h
end
end Go.TL
end
section
/- Reading wishes back, in plain Lean. No program is named here. -/
set_option linter.unusedVariables false
set_option linter.unusedSimpArgs false
namespace Go.TL
def rdN (s : Bytes) (a : Nat) : Option (Int × Nat) := if (unInt s a).2.2 = 0 then some ((unInt s a).1, (unInt s a).2.1.toNat) else none
def rdNs (s : Bytes) : Nat → Nat → Option (List Int × Nat)
  | 0, a => some ([], a)
  | k + 1, a => (rdNs s k a).bind fun x => (rdN s x.2).bind fun y => some (x.1 ++ [y.1], y.2)
def rdD (s : Bytes) (a : Nat) : Option (Bytes × Nat) := if a + 32 ≤ s.length then some ((s.take (a + 32)).drop a, a + 32) else none
def rdK (s : Bytes) (a : Nat) (m : Int) : Option Nat := (rdN s a).bind fun x => if x.1 = m then some x.2 else none
def proxyOf (l : List Int) (g : Bytes) : Proxy := ⟨l.getD 0 0, l.getD 1 0, l.getD 2 0, l.getD 3 0, l.getD 4 0, l.getD 5 0, g⟩
def wishOf (l : List Int) (g : Bytes) : Wish := ⟨l.getD 0 0, l.getD 1 0, l.getD 2 0, l.getD 3 0, l.getD 4 0, l.getD 5 0, l.getD 6 0, l.getD 7 0, g⟩
def rdP (s : Bytes) (a : Nat) : Option (Proxy × Nat) := (rdK s a 2).bind fun b => (rdNs s 6 b).bind fun x => (rdD s x.2).bind fun y => some (proxyOf x.1 y.1, y.2)
def rdPs (s : Bytes) : Nat → Nat → Option (List Proxy × Nat)
  | 0, a => some ([], a)
  | k + 1, a => (rdPs s k a).bind fun x => (rdP s x.2).bind fun y => some (x.1 ++ [y.1], y.2)
def rdW (s : Bytes) (a : Nat) : Option (Wish × Nat) := (rdK s a 1).bind fun b => (rdNs s 8 b).bind fun x => (rdD s x.2).bind fun y => some (wishOf x.1 y.1, y.2)
def rdHead (s : Bytes) : Option (List Proxy × Nat) := (rdN s 0).bind fun x => if within x.1 0 4 = true then rdPs s x.1.toNat x.2 else none
def decO (s : Bytes) : Option (Wish × List Proxy) := (rdHead s).bind fun x => (rdW s x.2).bind fun y => if y.2 < s.length ∨ formedOk y.1 x.1 = false then none else some (y.1, x.1)
def decodeOf (s : Bytes) : Wish × List Proxy × Int := match decO s with
  | some x => (x.1, x.2, 0)
  | none => (wish0, [], 150)
theorem unInt_next {s : Bytes} {a : Nat} (h : (unInt s a).2.2 = 0) : 0 ≤ (unInt s a).2.1 ∧ (unInt s a).2.1 ≤ s.length ∧ (a : Int) < (unInt s a).2.1 := by
  by_cases h1 : ((a : Int) < 0 ∨ (s.length : Int) < a)
  · rw [unInt_out h1] at h; simp at h
  · cases hr : rdv 9 (s.drop (a : Int).toNat) with
    | none => rw [unInt_none (by omega) (by omega) hr] at h; simp at h
    | some x =>
      obtain ⟨z, i, b⟩ := x
      by_cases hb : (b.toNat = 0 ∧ 0 < i) ∨ unz z < -4611686018427387903
      · rw [unInt_bad (by omega) (by omega) hr hb] at h; simp at h
      · rw [unInt_ok (by omega) (by omega) hr hb]
        have := (rdv_bound hr).2.2.1
        rw [List.length_drop] at this
        dsimp only
        omega
theorem rdN_next {s : Bytes} {a : Nat} {x : Int × Nat} (h : rdN s a = some x) : x.2 ≤ s.length ∧ a < x.2 := by
  unfold rdN at h
  split at h
  · rename_i h0
    have := unInt_next h0
    cases h
    dsimp only
    omega
  · cases h
theorem rdNs_len {s : Bytes} : ∀ {k a : Nat} {x : List Int × Nat}, rdNs s k a = some x → x.1.length = k
  | 0, a, x, h => by cases h; rfl
  | k + 1, a, x, h => by
    simp only [rdNs, Option.bind_eq_some_iff] at h
    obtain ⟨y, hy, z, hz, hx⟩ := h
    cases hx
    have := rdNs_len hy
    simp [this]
theorem rdNs_le {s : Bytes} : ∀ {k a : Nat} {x : List Int × Nat}, rdNs s k a = some x → a ≤ s.length → x.2 ≤ s.length
  | 0, a, x, h, ha => by cases h; exact ha
  | k + 1, a, x, h, ha => by
    simp only [rdNs, Option.bind_eq_some_iff] at h
    obtain ⟨y, hy, z, hz, hx⟩ := h
    cases hx
    exact (rdN_next hz).1
theorem rdK_next {s : Bytes} {a b : Nat} {m : Int} (h : rdK s a m = some b) : b ≤ s.length := by
  simp only [rdK, Option.bind_eq_some_iff] at h
  obtain ⟨x, hx, h⟩ := h
  split at h
  · cases h; exact (rdN_next hx).1
  · cases h
theorem rdNs_none {s : Bytes} {k a n : Nat} {l : List Int} {c : Nat} (h : rdNs s k a = some (l, c)) (hx : rdN s c = none) (hn : k < n) : rdNs s n a = none := by
  obtain ⟨j, rfl⟩ : ∃ j, n = k + 1 + j := ⟨n - (k + 1), by omega⟩
  induction j with
  | zero => simp [rdNs, h, hx]
  | succ j ih => rw [show k + 1 + (j + 1) = (k + 1 + j) + 1 by omega, rdNs, ih (by omega)]; rfl
theorem rdPs_none {s : Bytes} {k a n : Nat} {l : List Proxy} {c : Nat} (h : rdPs s k a = some (l, c)) (hx : rdP s c = none) (hn : k < n) : rdPs s n a = none := by
  obtain ⟨j, rfl⟩ : ∃ j, n = k + 1 + j := ⟨n - (k + 1), by omega⟩
  induction j with
  | zero => simp [rdPs, h, hx]
  | succ j ih => rw [show k + 1 + (j + 1) = (k + 1 + j) + 1 by omega, rdPs, ih (by omega)]; rfl
theorem decodeOf_none {s : Bytes} (h : decO s = none) : decodeOf s = (wish0, [], 150) := by rw [decodeOf, h]
theorem decodeOf_some {s : Bytes} {w : Wish} {l : List Proxy} (h : decO s = some (w, l)) : decodeOf s = (w, l, 0) := by rw [decodeOf, h]
theorem dec1 {s : Bytes} (h : rdN s 0 = none) : decodeOf s = (wish0, [], 150) := decodeOf_none (by rw [decO, rdHead, h]; rfl)
theorem dec2 {s : Bytes} {m : Int} {a : Nat} (h : rdN s 0 = some (m, a)) (hw : within m 0 4 = false) : decodeOf s = (wish0, [], 150) := decodeOf_none (by simp [decO, rdHead, h, hw])
theorem dec3 {s : Bytes} {m : Int} {a k c : Nat} {l : List Proxy} (h : rdN s 0 = some (m, a)) (hp : rdPs s k a = some (l, c)) (hk : k < m.toNat) (hn : rdP s c = none) : decodeOf s = (wish0, [], 150) := decodeOf_none (by
  simp only [decO, rdHead, h, Option.bind_some]
  split
  · rw [rdPs_none hp hn hk]; rfl
  · rfl)
theorem dec4 {s : Bytes} {m : Int} {a k c : Nat} {l : List Proxy} (h : rdN s 0 = some (m, a)) (hp : rdPs s k a = some (l, c)) (hk : k = m.toNat) (hn : rdW s c = none) : decodeOf s = (wish0, [], 150) := decodeOf_none (by
  subst hk
  simp only [decO, rdHead, h, Option.bind_some]
  split
  · rw [hp, Option.bind_some, hn]; rfl
  · rfl)
theorem dec5 {s : Bytes} {m : Int} {a k c e : Nat} {l : List Proxy} {w : Wish} (h : rdN s 0 = some (m, a)) (hw : within m 0 4 = true) (hp : rdPs s k a = some (l, c)) (hk : k = m.toNat) (hn : rdW s c = some (w, e)) :
    decodeOf s = if e < s.length ∨ formedOk w l = false then (wish0, [], 150) else (w, l, 0) := by
  subst hk
  have : decO s = if e < s.length ∨ formedOk w l = false then none else some (w, l) := by
    simp only [decO, rdHead, h, Option.bind_some, hw, if_true, hp, hn]
  by_cases hc : e < s.length ∨ formedOk w l = false
  · rw [if_pos hc] at this ⊢
    exact decodeOf_none this
  · rw [if_neg hc] at this ⊢
    exact decodeOf_some this
def NC (N : Nat) (nums : List Int) : List Value := nums.map (Value.int .i64) ++ List.replicate (N - nums.length) (Value.int .i64 0) ++ [.string (str [])]
theorem NC_len {N : Nat} {nums : List Int} (h : nums.length ≤ N) : (NC N nums).length = N + 1 := by simp [NC]; omega
theorem over_num {N j : Nat} {nums : List Int} {v : Int} (h : nums.length = j) (hj : j < N) : over (NC N nums).toArray j [.int .i64 v] = (NC N (nums ++ [v])).toArray := by
  unfold over NC
  congr 1
  subst h
  obtain ⟨q, rfl⟩ : ∃ q, N = nums.length + 1 + q := ⟨N - (nums.length + 1), by omega⟩
  simp only [List.length_append, List.length_cons, List.length_nil]
  rw [show nums.length + 1 + q - nums.length = q + 1 by omega, show nums.length + 1 + q - (nums.length + (0 + 1)) = q by omega, List.replicate_succ]
  simp [List.take_append, List.drop_append]
theorem NC6 {nums : List Int} (h : nums.length = 6) : NC 6 nums = proxyL (proxyOf nums []) := by
  match nums, h with
  | [a, b, c, d, e, f], _ => rfl
theorem NC8 {nums : List Int} (h : nums.length = 8) : NC 8 nums = wishL (wishOf nums []) := by
  match nums, h with
  | [a, b, c, d, e, f, g, i], _ => rfl
theorem ptr6 {b j : Nat} (h : j < 6) : (#[.pointer (some ⟨b, 0, none⟩), .pointer (some ⟨b, 1, none⟩), .pointer (some ⟨b, 2, none⟩), .pointer (some ⟨b, 3, none⟩), .pointer (some ⟨b, 4, none⟩), .pointer (some ⟨b, 5, none⟩)] : Array Value)[j]? = some (.pointer (some ⟨b, j, none⟩)) := by
  match j, h with
  | 0, _ => rfl
  | 1, _ => rfl
  | 2, _ => rfl
  | 3, _ => rfl
  | 4, _ => rfl
  | 5, _ => rfl
theorem ptr8 {b j : Nat} (h : j < 8) : (#[.pointer (some ⟨b, 0, none⟩), .pointer (some ⟨b, 1, none⟩), .pointer (some ⟨b, 2, none⟩), .pointer (some ⟨b, 3, none⟩), .pointer (some ⟨b, 4, none⟩), .pointer (some ⟨b, 5, none⟩), .pointer (some ⟨b, 6, none⟩), .pointer (some ⟨b, 7, none⟩)] : Array Value)[j]? = some (.pointer (some ⟨b, j, none⟩)) := by
  match j, h with
  | 0, _ => rfl
  | 1, _ => rfl
  | 2, _ => rfl
  | 3, _ => rfl
  | 4, _ => rfl
  | 5, _ => rfl
  | 6, _ => rfl
  | 7, _ => rfl
theorem bits_xor_m1 {a : Nat} (h : a < 9223372036854775808) : bits .xor .i64 (a : Int) (-1) = -(a : Int) - 1 := by
  show IntKind.i64.wrap ((BitVec.ofInt 64 (a : Int) ^^^ BitVec.ofInt 64 (-1)).toNat : Int) = _
  have e : BitVec.ofInt 64 (-1) = BitVec.allOnes 64 := by decide
  rw [e, BitVec.xor_allOnes, BitVec.toNat_not, BitVec.ofInt_natCast, BitVec.toNat_ofNat, Nat.mod_eq_of_lt (by omega)]
  have h2 : ((2 ^ 64 - 1 - a : Nat) : Int) = 18446744073709551615 - (a : Int) := by omega
  rw [h2]
  simp only [IntKind.wrap, IntKind.bits, IntKind.signed]
  simp
  omega
theorem bits_xor_0 {a : Nat} (h : a < 9223372036854775808) : bits .xor .i64 (a : Int) 0 = (a : Int) := by
  show IntKind.i64.wrap ((BitVec.ofInt 64 (a : Int) ^^^ BitVec.ofInt 64 0).toNat : Int) = _
  have e : BitVec.ofInt 64 0 = 0#64 := by decide
  rw [e, BitVec.xor_zero, BitVec.ofInt_natCast, BitVec.toNat_ofNat, Nat.mod_eq_of_lt (by omega)]
  exact w64 (by omega) (by omega)
theorem xor_unz {z : Nat} (h : z < 9223372036854775808) : bits .xor .i64 ((z / 2 : Nat) : Int) (0 - ((z % 2 : Nat) : Int)) = unz z := by
  unfold unz
  rcases Nat.mod_two_eq_zero_or_one z with e | e
  · rw [e, if_neg (by omega)]
    exact bits_xor_0 (by omega)
  · rw [e, if_pos rfl]
    exact bits_xor_m1 (by omega)
section
variable {P : Program} {G L : List Asn} {d : Option Tmp} {ty : TypeId} {pos : String} {aft : Array Edge} {ρ : Operand → Value} {g : Option (Nat × Bool)} {x y : Operand} {t t' : TypeId} {k : IntKind}
theorem rd_and127b {a : UInt8} {c : Int} (hx : ρ x = .int .u8 (a.toNat : Int)) (hy : ρ y = .int .u8 c) (hc : c = 127) : Reads P G L ⟨d, .binOp .and t x y t', ty, pos, aft, g⟩ ρ (.int .u8 ((a.toNat % 128 : Nat) : Int)) := rd_and hx hy (by
  subst hc
  rw [show (127 : Int) = ((127 : Nat) : Int) from rfl, u8_and_nat _ _ a.toNat_lt (by omega)]
  exact congrArg _ (Nat.and_two_pow_sub_one_eq_mod _ 7))
theorem rd_conv8_64n {a : Nat} {u : TypeId} (ht : (P.underlying t).isSome = true) (hu : P.underlying u = some (.int .u64)) (hx : ρ x = .int .u8 (a : Int)) (ha : a < 256) :
    Reads P G L ⟨d, .convert t u x, ty, pos, aft, g⟩ ρ (.int .u64 (a : Int)) := rd_convert ht hu hx (by rw [wrap_u64]; omega)
theorem rd_or64 {z c i : Nat} (hx : ρ x = .int .u64 (z : Int)) (hy : ρ y = .int .u64 ((c * 128 ^ i : Nat) : Int)) (hz : z < 128 ^ i) (hc : c < 128) (hi : i ≤ 8) : Reads P G L ⟨d, .binOp .or t x y t', ty, pos, aft, g⟩ ρ (.int .u64 ((z + c * 128 ^ i : Nat) : Int)) := rd_or hx hy (by
  have hb := mul128 hc hi
  have hp : 128 ^ i ≤ 9223372036854775808 := pow128_le (by omega)
  rw [u64_or_nat _ _ (by omega) (by omega)]
  congr 1
  have e : 128 ^ i = 2 ^ (7 * i) := by rw [Nat.pow_mul]
  rw [e] at hz ⊢
  have := Nat.two_pow_add_eq_or_of_lt hz c
  rw [Nat.or_comm, Nat.mul_comm c, ← this, Nat.add_comm])
theorem rd_shr1 {a : Nat} {c : Int} (hx : ρ x = .int .u64 (a : Int)) (hy : ρ y = .int k c) (hc : c = 1) : Reads P G L ⟨d, .binOp .shr t x y t', ty, pos, aft, g⟩ ρ (.int .u64 ((a / 2 : Nat) : Int)) := rd_shr hx hy (by omega) (by
  exact fdiv_pow (a := a) (q := 1) (e := c) hc (by omega))
theorem rd_and1 {a : Nat} {c : Int} (hx : ρ x = .int .u64 (a : Int)) (hy : ρ y = .int .u64 c) (hc : c = 1) (ha : a < 18446744073709551616) : Reads P G L ⟨d, .binOp .and t x y t', ty, pos, aft, g⟩ ρ (.int .u64 ((a % 2 : Nat) : Int)) := rd_and hx hy (by
  subst hc
  rw [show (1 : Int) = ((1 : Nat) : Int) from rfl, u64_and_nat _ _ ha (by omega)]
  exact congrArg _ (Nat.and_two_pow_sub_one_eq_mod a 1))
end
end Go.TL
end
section
/- Wishes and proxies compared as structs. No program is named here. -/
set_option linter.unusedVariables false
set_option linter.unusedSimpArgs false
namespace Go.TL
def fieldsB (P : Program) (t : TypeId) : List (Bool × Nat × Nat) := match P.underlying t with
  | some (.struct fs) => fs.toList.map fun f => (f.name != "_", f.type, f.offset)
  | _ => []
structure EqTy (P : Program) (pt wt rt st it sst : Nat) : Prop where
  fP : fieldsB P pt = [(true, it, 0), (true, it, 1), (true, rt, 2), (true, st, 4), (true, sst, 6)]
  fW : fieldsB P wt = [(true, it, 0), (true, it, 1), (true, rt, 2), (true, it, 4), (true, it, 5), (true, st, 6), (true, sst, 8)]
  fR : fieldsB P rt = [(true, it, 0), (true, it, 1)]
  fS : fieldsB P st = [(true, it, 0), (true, it, 1)]
  held : P.stoodInHeld pt = false ∧ P.stoodInHeld wt = false ∧ P.stoodInHeld rt = false ∧ P.stoodInHeld st = false
  guard : P.eqGuardType P.depth pt = false ∧ P.eqGuardType P.depth wt = false
  oneI : TyOne P it
  oneS : TyOne P sst
  aggR : TyAgg P rt 2
  aggS : TyAgg P st 2
  ui : P.underlying it = some (.int .i64)
  us : P.underlying sst = some .string
section
variable {P : Program}
theorem fields_of {t : TypeId} {x : Bool × Nat × Nat} {l : List (Bool × Nat × Nat)} (h : fieldsB P t = x :: l) : P.underlying t = some (.struct (P.fieldsOf t)) ∧ (P.fieldsOf t).toList.map (fun f => (f.name != "_", f.type, f.offset)) = x :: l := by
  unfold fieldsB at h
  unfold Program.fieldsOf
  cases e : P.underlying t with
  | none => rw [e] at h; cases h
  | some td =>
    rw [e] at h
    cases td with
    | struct fs => exact ⟨rfl, h⟩
    | _ => cases h
def EqL (P : Program) (d : Nat) (xs ys : Array Value) (w : World) : List (Bool × Nat × Nat) → List Bool → Prop
  | [], [] => True
  | x :: l, r :: rs => x.1 = true ∧ (∃ a b, (Go.part x.2.1 xs x.2.2).run P w = .ok a w ∧ (Go.part x.2.1 ys x.2.2).run P w = .ok b w ∧ (Op.equalIn d x.2.1 a b).run P w = .ok r w) ∧ EqL P d xs ys w l rs
  | _, _ => False
theorem run_eqF {d : Nat} {xs ys : Array Value} {w : World} : ∀ (fs : List Field) (l : List (Bool × Nat × Nat)) (rs : List Bool), fs.map (fun f => (f.name != "_", f.type, f.offset)) = l → EqL P d xs ys w l rs → (Op.eqFields d xs ys fs).run P w = .ok (rs.all id) w
  | [], [], [], _, _ => rfl
  | [], [], _ :: _, _, h => h.elim
  | [], _ :: _, _, e, _ => by simp at e
  | _ :: _, [], _, e, _ => by simp at e
  | f :: fs, x :: l, [], _, h => h.elim
  | f :: fs, x :: l, r :: rs, e, ⟨h1, ⟨a, b, ha, hb, hr⟩, hl⟩ => by
    simp only [List.map_cons, List.cons.injEq] at e
    obtain ⟨e1, e2⟩ := e
    subst e1
    have ih := run_eqF fs l rs e2 hl
    have hn : f.name ≠ "_" := by simpa using h1
    simp only [Op.eqFields, if_pos hn, Sem.run_bind, ha, hb, hr, Result.andThen_ok]
    cases r with
    | true => simp [ih]
    | false => simp
theorem part_one {t : TypeId} {xs : Array Value} {o : Nat} {v : Value} {w : World} (ht : TyOne P t) (h : xs[o]? = some v) : (Go.part t xs o).run P w = .ok v w := by
  simp [Go.part, ht.agg, h]
theorem part_agg {t : TypeId} {xs ys : Array Value} {o k : Nat} {w : World} (ht : TyAgg P t k) (h : xs.extract o (o + k) = ys) : (Go.part t xs o).run P w = .ok (.agg ys) w := by
  simp [Go.part, ht.agg, ht.size, h]
theorem eq_int {t : TypeId} {d : Nat} {a b : Int} {w : World} (h : P.underlying t = some (.int .i64)) : (Op.equalIn (d + 1) t (.int .i64 a) (.int .i64 b)).run P w = .ok (a == b) w := run_equalIn_int w d t .i64 .i64 a b h
theorem eq_str {t : TypeId} {d : Nat} {a b : Bytes} {w : World} (h : P.underlying t = some .string) : (Op.equalIn (d + 1) t (.string (str a)) (.string (str b))).run P w = .ok (a == b) w := by
  rw [run_equalIn_string w d t _ _ h, str_toList, str_toList]
theorem eq_struct {t : TypeId} {d : Nat} {xs ys : Array Value} {w : World} {x : Bool × Nat × Nat} {l : List (Bool × Nat × Nat)} {rs : List Bool} (hf : fieldsB P t = x :: l) (hp : P.stoodInHeld t = false) (h : EqL P d xs ys w (x :: l) rs) : (Op.equalIn (d + 1) t (.agg xs) (.agg ys)).run P w = .ok (rs.all id) w := by
  obtain ⟨h1, h2⟩ := fields_of hf
  rw [run_equalIn_agg w d t xs ys h1 hp]
  exact run_eqF _ _ _ h2 h
variable {pt wt rt st it sst : Nat} (E : EqTy P pt wt rt st it sst)
include E
theorem eq_range {d : Nat} {a b c e : Int} {w : World} : (Op.equalIn (d + 2) rt (.agg #[.int .i64 a, .int .i64 b]) (.agg #[.int .i64 c, .int .i64 e])).run P w = .ok (a == c && b == e) w := by
  have := eq_struct (rs := [a == c, b == e]) (w := w) (d := d + 1) (xs := #[.int .i64 a, .int .i64 b]) (ys := #[.int .i64 c, .int .i64 e]) E.fR E.held.2.2.1 ⟨rfl, ⟨_, _, part_one E.oneI rfl, part_one E.oneI rfl, eq_int E.ui⟩, rfl, ⟨_, _, part_one E.oneI rfl, part_one E.oneI rfl, eq_int E.ui⟩, trivial⟩
  simpa using this
theorem eq_spell {d : Nat} {a b c e : Int} {w : World} : (Op.equalIn (d + 2) st (.agg #[.int .i64 a, .int .i64 b]) (.agg #[.int .i64 c, .int .i64 e])).run P w = .ok (a == c && b == e) w := by
  have := eq_struct (rs := [a == c, b == e]) (w := w) (d := d + 1) (xs := #[.int .i64 a, .int .i64 b]) (ys := #[.int .i64 c, .int .i64 e]) E.fS E.held.2.2.2 ⟨rfl, ⟨_, _, part_one E.oneI rfl, part_one E.oneI rfl, eq_int E.ui⟩, rfl, ⟨_, _, part_one E.oneI rfl, part_one E.oneI rfl, eq_int E.ui⟩, trivial⟩
  simpa using this
theorem eq_proxy (p q : Proxy) {w : World} : (Op.equalIn 10000 pt (proxyV p) (proxyV q)).run P w = .ok (decide (p = q)) w := by
  have := eq_struct (rs := [p.frm == q.frm, p.to == q.to, p.rlo == q.rlo && p.rhi == q.rhi, p.slo == q.slo && p.shi == q.shi, p.sig == q.sig]) (w := w) (d := 9999) (xs := proxyC p) (ys := proxyC q) E.fP E.held.1
    ⟨rfl, ⟨_, _, part_one E.oneI rfl, part_one E.oneI rfl, eq_int E.ui⟩, rfl, ⟨_, _, part_one E.oneI rfl, part_one E.oneI rfl, eq_int E.ui⟩, rfl, ⟨_, _, part_agg E.aggR rfl, part_agg E.aggR rfl, eq_range E⟩, rfl, ⟨_, _, part_agg E.aggS rfl, part_agg E.aggS rfl, eq_spell E⟩, rfl, ⟨_, _, part_one E.oneS rfl, part_one E.oneS rfl, eq_str E.us⟩, trivial⟩
  rw [show proxyV p = .agg (proxyC p) from rfl, show proxyV q = .agg (proxyC q) from rfl, this]
  congr 1
  rw [Bool.eq_iff_iff]
  cases p; cases q
  simp [and_assoc]
theorem eq_wish (p q : Wish) {w : World} : (Op.equalIn 10000 wt (wishV p) (wishV q)).run P w = .ok (decide (p = q)) w := by
  have := eq_struct (rs := [p.signer == q.signer, p.holder == q.holder, p.rlo == q.rlo && p.rhi == q.rhi, p.carrier == q.carrier, p.serial == q.serial, p.slo == q.slo && p.shi == q.shi, p.sig == q.sig]) (w := w) (d := 9999) (xs := wishC p) (ys := wishC q) E.fW E.held.2.1
    ⟨rfl, ⟨_, _, part_one E.oneI rfl, part_one E.oneI rfl, eq_int E.ui⟩, rfl, ⟨_, _, part_one E.oneI rfl, part_one E.oneI rfl, eq_int E.ui⟩, rfl, ⟨_, _, part_agg E.aggR rfl, part_agg E.aggR rfl, eq_range E⟩, rfl, ⟨_, _, part_one E.oneI rfl, part_one E.oneI rfl, eq_int E.ui⟩, rfl, ⟨_, _, part_one E.oneI rfl, part_one E.oneI rfl, eq_int E.ui⟩, rfl, ⟨_, _, part_agg E.aggS rfl, part_agg E.aggS rfl, eq_spell E⟩, rfl, ⟨_, _, part_one E.oneS rfl, part_one E.oneS rfl, eq_str E.us⟩, trivial⟩
  rw [show wishV p = .agg (wishC p) from rfl, show wishV q = .agg (wishC q) from rfl, this]
  congr 1
  rw [Bool.eq_iff_iff]
  cases p; cases q
  simp [and_assoc]
variable {G L : List Asn} {d : Option Tmp} {ty : TypeId} {pos : String} {aft : Array Edge} {ρ : Operand → Value} {g : Option (Nat × Bool)} {x y : Operand} {t' : TypeId}
theorem rd_eqw {p q : Wish} (hx : ρ x = wishV p) (hy : ρ y = wishV q) : Reads P G L ⟨d, .binOp .eql wt x y t', ty, pos, aft, g⟩ ρ (.bool (decide (p = q))) := .of (fun c h => by cases h) fun w => by
  have hg : (eqGuard .eql wt x y (wishV p) (wishV q)).run P w = .ok () w := run_eqGuard_agg w .eql wt x y _ _ E.guard.2
  have hb : (binOp .eql wt (wishV p) (wishV q)).run P w = _ := run_eql_struct w wt _ _
  simp only [execOp, hx, hy, Sem.run_bind, hg, Result.andThen_ok, hb]
  have := eq_wish E p q (w := w)
  simp only [wishV] at this ⊢
  simp [this]
theorem rd_new {p q : Wish} (hx : ρ x = wishV p) (hy : ρ y = wishV q) : Reads P G L ⟨d, .binOp .neq wt x y t', ty, pos, aft, g⟩ ρ (.bool (!(decide (p = q)))) := .of (fun c h => by cases h) fun w => by
  have hg : (eqGuard .neq wt x y (wishV p) (wishV q)).run P w = .ok () w := run_eqGuard_agg w .neq wt x y _ _ E.guard.2
  have hb : (binOp .neq wt (wishV p) (wishV q)).run P w = _ := run_neq_struct w wt _ _
  simp only [execOp, hx, hy, Sem.run_bind, hg, Result.andThen_ok, hb]
  have := eq_wish E p q (w := w)
  simp only [wishV] at this ⊢
  simp [this]
theorem rd_nep {p q : Proxy} (hx : ρ x = proxyV p) (hy : ρ y = proxyV q) : Reads P G L ⟨d, .binOp .neq pt x y t', ty, pos, aft, g⟩ ρ (.bool (!(decide (p = q)))) := .of (fun c h => by cases h) fun w => by
  have hg : (eqGuard .neq pt x y (proxyV p) (proxyV q)).run P w = .ok () w := run_eqGuard_agg w .neq pt x y _ _ E.guard.1
  have hb : (binOp .neq pt (proxyV p) (proxyV q)).run P w = _ := run_neq_struct w pt _ _
  simp only [execOp, hx, hy, Sem.run_bind, hg, Result.andThen_ok, hb]
  have := eq_proxy E p q (w := w)
  simp only [proxyV] at this ⊢
  simp [this]
theorem rd_eqw_true {p q : Wish} (hx : ρ x = wishV p) (hy : ρ y = wishV q) (h : p = q) : Reads P G L ⟨d, .binOp .eql wt x y t', ty, pos, aft, g⟩ ρ (.bool true) := by
  have := rd_eqw E (G := G) (L := L) (d := d) (ty := ty) (pos := pos) (aft := aft) (g := g) (t' := t') hx hy
  rwa [decide_eq_true h] at this
end
end Go.TL
end
section
set_option linter.unusedVariables false
set_option linter.unusedSimpArgs false
set_option maxRecDepth 100000
set_option maxHeartbeats 800000
namespace Go.Proofs
open Go.TL
attribute [local irreducible] Go.TL.T Go.TL.TO Go.TL.TQ
theorem Tryz.agg22 : TyAgg Tryz.prog 22 2 := ⟨fun w => by kernel_rfl, fun w => by kernel_rfl⟩
theorem Tryz.agg25 : TyAgg Tryz.prog 25 8 := ⟨fun w => by kernel_rfl, fun w => by kernel_rfl⟩
theorem Tryz.agg30 : TyAgg Tryz.prog 30 9 := ⟨fun w => by kernel_rfl, fun w => by kernel_rfl⟩
theorem Tryz.agg40 : TyAgg Tryz.prog 40 7 := ⟨fun w => by kernel_rfl, fun w => by kernel_rfl⟩
theorem Tryz.eqty : EqTy Tryz.prog 40 30 27 28 3 9 := ⟨by kernel_rfl, by kernel_rfl, by kernel_rfl, by kernel_rfl, ⟨by kernel_rfl, by kernel_rfl, by kernel_rfl, by kernel_rfl⟩, ⟨by kernel_rfl, by kernel_rfl⟩, ⟨fun w => by kernel_rfl, fun w => by kernel_rfl⟩, ⟨fun w => by kernel_rfl, fun w => by kernel_rfl⟩, ⟨fun w => by kernel_rfl, fun w => by kernel_rfl⟩, ⟨fun w => by kernel_rfl, fun w => by kernel_rfl⟩, by kernel_rfl, by kernel_rfl⟩
theorem Tryz.field27_0 : TyField Tryz.prog 27 0 0 := fun a w => by kernel_rfl
theorem Tryz.field28_0 : TyField Tryz.prog 28 0 0 := fun a w => by kernel_rfl
theorem Tryz.field30_2 : TyField Tryz.prog 30 2 2 := fun a w => by kernel_rfl
theorem Tryz.field30_5 : TyField Tryz.prog 30 5 6 := fun a w => by kernel_rfl
theorem Tryz.mixes : Tryz.prog.follows .mixedOrders = true := by kernel_rfl
theorem Tryz.one3 : TyOne Tryz.prog 3 := ⟨fun w => by kernel_rfl, fun w => by kernel_rfl⟩
theorem Tryz.one31 : TyOne Tryz.prog 31 := ⟨fun w => by kernel_rfl, fun w => by kernel_rfl⟩
theorem Tryz.one32 : TyOne Tryz.prog 32 := ⟨fun w => by kernel_rfl, fun w => by kernel_rfl⟩
theorem Tryz.one9 : TyOne Tryz.prog 9 := ⟨fun w => by kernel_rfl, fun w => by kernel_rfl⟩
theorem Tryz.size22 : ∀ w, (sizeOf 22).run Tryz.prog w = .ok 2 w := fun w => by kernel_rfl
theorem Tryz.size3 : ∀ w, (sizeOf 3).run Tryz.prog w = .ok 1 w := fun w => by kernel_rfl
theorem Tryz.size30 : ∀ w, (sizeOf 30).run Tryz.prog w = .ok 9 w := fun w => by kernel_rfl
theorem Tryz.size31 : ∀ w, (sizeOf 31).run Tryz.prog w = .ok 1 w := fun w => by kernel_rfl
theorem Tryz.size32 : ∀ w, (sizeOf 32).run Tryz.prog w = .ok 1 w := fun w => by kernel_rfl
theorem Tryz.size40 : ∀ w, (sizeOf 40).run Tryz.prog w = .ok 7 w := fun w => by kernel_rfl
theorem Tryz.size9 : ∀ w, (sizeOf 9).run Tryz.prog w = .ok 1 w := fun w => by kernel_rfl
theorem Tryz.trow40 : TyRow Tryz.prog 40 7 64 := tyRow_of (by kernel_rfl)
theorem Tryz.trow9 : TyRow Tryz.prog 9 1 16 := tyRow_of (by kernel_rfl)
theorem Tryz.under22 : Tryz.prog.underlying 22 = some (.array 2 3) := by kernel_rfl
theorem Tryz.under31 : Tryz.prog.underlying 31 = some (.slice 40) := by kernel_rfl
theorem Tryz.under32 : Tryz.prog.underlying 32 = some (.slice 9) := by kernel_rfl
theorem Tryz.under4 : Tryz.prog.underlying 4 = some (.bool) := by kernel_rfl
theorem Tryz.under43 : Tryz.prog.underlying 43 = some (.slice 31) := by kernel_rfl
theorem Tryz.under44 : Tryz.prog.underlying 44 = some (.slice 30) := by kernel_rfl
theorem Tryz.under47 : Tryz.prog.underlying 47 = some (.slice 32) := by kernel_rfl
theorem Tryz.under48 : Tryz.prog.underlying 48 = some (.slice 22) := by kernel_rfl
theorem Tryz.zero22 : TyZero Tryz.prog 22 (.agg #[.int .i64 0, .int .i64 0]) := fun w => by kernel_rfl
theorem Tryz.zero30 : TyZero Tryz.prog 30 (.agg #[.int .i64 0, .int .i64 0, .int .i64 0, .int .i64 0, .int .i64 0, .int .i64 0, .int .i64 0, .int .i64 0, .string ⟨#[]⟩]) := fun w => by kernel_rfl
theorem Tryz.zero31 : TyZero Tryz.prog 31 (.slice none 0 0) := fun w => by kernel_rfl
theorem Tryz.zero32 : TyZero Tryz.prog 32 (.slice none 0 0) := fun w => by kernel_rfl
theorem Tryz.zero40 : TyZero Tryz.prog 40 (.agg #[.int .i64 0, .int .i64 0, .int .i64 0, .int .i64 0, .int .i64 0, .int .i64 0, .string ⟨#[]⟩]) := fun w => by kernel_rfl
theorem Tryz.zero9 : TyZero Tryz.prog 9 (.string ⟨#[]⟩) := fun w => by kernel_rfl
theorem Tryz.enters6 : Enters Tryz.prog 6 := fun args w => by kernel_rfl
theorem Tryz.enters7 : Enters Tryz.prog 7 := fun args w => by kernel_rfl
theorem Tryz.enters8 : Enters Tryz.prog 8 := fun args w => by kernel_rfl
theorem Tryz.enters9 : Enters Tryz.prog 9 := fun args w => by kernel_rfl
theorem Tryz.enters10 : Enters Tryz.prog 10 := fun args w => by kernel_rfl
theorem Tryz.enters11 : Enters Tryz.prog 11 := fun args w => by kernel_rfl
theorem Tryz.enters12 : Enters Tryz.prog 12 := fun args w => by kernel_rfl
theorem Tryz.enters13 : Enters Tryz.prog 13 := fun args w => by kernel_rfl
theorem Tryz.enters14 : Enters Tryz.prog 14 := fun args w => by kernel_rfl
theorem Tryz.enters15 : Enters Tryz.prog 15 := fun args w => by kernel_rfl
theorem Tryz.enters16 : Enters Tryz.prog 16 := fun args w => by kernel_rfl
theorem Tryz.enters17 : Enters Tryz.prog 17 := fun args w => by kernel_rfl
theorem Tryz.enters18 : Enters Tryz.prog 18 := fun args w => by kernel_rfl
theorem Tryz.enters19 : Enters Tryz.prog 19 := fun args w => by kernel_rfl
theorem Tryz.enters20 : Enters Tryz.prog 20 := fun args w => by kernel_rfl
theorem Tryz.enters21 : Enters Tryz.prog 21 := fun args w => by kernel_rfl
theorem Tryz.enters22 : Enters Tryz.prog 22 := fun args w => by kernel_rfl
theorem Tryz.enters23 : Enters Tryz.prog 23 := fun args w => by kernel_rfl
end Go.Proofs
end
section
set_option linter.unusedVariables false
set_option linter.unusedSimpArgs false
set_option maxRecDepth 100000
set_option maxHeartbeats 800000
namespace Go.Proofs
open Go.TL
attribute [local irreducible] Go.TL.T Go.TL.TO Go.TL.TQ
theorem Tryz.under9 : Tryz.prog.underlying 9 = some (.string) := by kernel_rfl
end Go.Proofs
end
section
/- What a valid wish is, and what becomes of it when something is left out, doubled or exchanged, in plain Lean. No program is named here. -/
set_option linter.unusedVariables false
set_option linter.unusedSimpArgs false
namespace Go.TL
structure Good (ks : List Bytes) (w : Wish) (l : List Proxy) (nu t : Int) : Prop where
  keys : ks.length ≤ 64 ∧ firstIx (keyP ks) ks.length = none
  wok : wishOk w = true
  len : l.length ≤ 4
  forms : okTo (formP l) l.length
  tim : w.slo ≤ t ∧ t < w.shi
  num : w.rlo ≤ nu ∧ nu < w.rhi
  chain : okTo (chainP w.holder l) l.length
  who : w.signer = whoAt w.holder l l.length
  scope : okTo (scopeP l) l.length
  last : 0 < l.length → inScope w.rlo w.rhi w.slo w.shi (l.getD (l.length - 1) proxy0) = true
  seals : okTo (sealP ks l) l.length
  sl : sealBadW ks w = false
theorem inScope_iff {a b c d : Int} {p : Proxy} : inScope a b c d p = true ↔ p.rlo ≤ a ∧ b ≤ p.rhi ∧ p.slo ≤ c ∧ d ≤ p.shi := by
  simp only [inScope, scopeOk, Bool.and_eq_true, decide_eq_true_eq]
theorem Good.cover {ks : List Bytes} {w : Wish} {l : List Proxy} {nu t : Int} (g : Good ks w l nu t) : ∀ (j : Nat), j < l.length → (l.getD (l.length - 1 - j) proxy0).rlo ≤ w.rlo ∧ w.rhi ≤ (l.getD (l.length - 1 - j) proxy0).rhi ∧ (l.getD (l.length - 1 - j) proxy0).slo ≤ w.slo ∧ w.shi ≤ (l.getD (l.length - 1 - j) proxy0).shi
  | 0, h => inScope_iff.1 (g.last h)
  | j + 1, h => by
    have ih := g.cover j (by omega)
    have hs := g.scope (l.length - 1 - j) (by omega)
    rw [scopeP, decide_eq_true (by omega), Bool.true_and, Bool.not_eq_false', inScope_iff] at hs
    rw [show l.length - 1 - (j + 1) = l.length - 1 - j - 1 by omega]
    omega
theorem Good.at_ {ks : List Bytes} {w : Wish} {l : List Proxy} {nu t : Int} (g : Good ks w l nu t) {i : Nat} (h : i < l.length) : (l[i]'h).frm = whoAt w.holder l i ∧ (l[i]'h).rlo ≤ nu ∧ nu < (l[i]'h).rhi ∧ (l[i]'h).slo ≤ t ∧ t < (l[i]'h).shi := by
  have hc := g.cover (l.length - 1 - i) (by omega)
  rw [show l.length - 1 - (l.length - 1 - i) = i by omega, getD_get _ h] at hc
  have h1 := g.chain i h
  rw [chainP, getD_get _ h] at h1
  have h2 := g.tim
  have h3 := g.num
  refine ⟨by simpa using h1, ?_⟩
  omega
/-! ### One proxy is left out, or stands twice -/
/-! ### Seals and keys -/
theorem keysN_el {q : Nat} (h : q < (keysN 10).length) : (keysN 10)[q]'h = keyB (q : Int) := by
  have h' : q < 10 := by rwa [keysN_len] at h
  rw [← getD_get [] h, keysN_get h']
end Go.TL
end
section
/- Texts of wishes are read back, and what is read is written alike; account codes. Plain laws. No program is named here. -/
set_option linter.unusedVariables false
set_option linter.unusedSimpArgs false
namespace Go.TL
def okI (n : Int) : Prop := -4611686018427387903 ≤ n ∧ n ≤ 4611686018427387903
theorem snocInd {α : Type} {motive : List α → Prop} (nil : motive []) (snoc : ∀ l a, motive l → motive (l ++ [a])) (l : List α) : motive l := by
  have h : ∀ m : List α, motive m.reverse := fun m => by
    induction m with
    | nil => exact nil
    | cons a m ih => rw [List.reverse_cons]; exact snoc _ _ ih
  have := h l.reverse
  rwa [List.reverse_reverse] at this
theorem rdv_of : ∀ {k z : Nat} (r : Bytes), z < 128 ^ k → 0 < k → ∃ c, rdv k (vintF k z ++ r) = some (z, (vintF k z).length - 1, c) ∧ (c.toNat = 0 → z = 0) ∧ 1 ≤ (vintF k z).length
  | 0, _, _, _, h => absurd h (by omega)
  | k + 1, z, r, hz, _ => by
    by_cases h : z < 128
    · rw [vintF_end h]
      have e : (UInt8.ofNat z).toNat = z := by rw [UInt8.toNat_ofNat']; omega
      refine ⟨UInt8.ofNat z, ?_, fun h0 => by rw [e] at h0; exact h0, by simp⟩
      simp only [List.cons_append, List.nil_append, rdv, e, if_neg (show ¬ 128 ≤ z by omega), List.length_cons, List.length_nil]
    · obtain ⟨j, hj, hj0⟩ := pow128_pos hz (by omega)
      obtain ⟨c, h1, h2, h3⟩ := rdv_of (k := k) r (pow128 hz) (by omega)
      rw [vintF_go (by omega)]
      have e : (UInt8.ofNat (z % 128 + 128)).toNat = z % 128 + 128 := by rw [UInt8.toNat_ofNat']; omega
      refine ⟨c, ?_, fun h0 => absurd (h2 h0) (by omega), by simp⟩
      simp only [List.cons_append, rdv, e, if_pos (show 128 ≤ z % 128 + 128 by omega), h1, Option.map_some, List.length_cons]
      congr 2
      · omega
      · congr 1
        omega
theorem putInt_vint {n : Int} (h : okI n) : putInt n = vintF 9 (zig n) ∧ zig n < 9223372036854775808 := by
  have := zig_lt h.1 h.2
  exact ⟨by rw [putInt, if_pos (show -4611686018427387903 ≤ n ∧ n ≤ 4611686018427387903 from h), vint9 (by omega)], by omega⟩
theorem unInt_put {n : Int} (h : okI n) (a r : Bytes) : unInt (a ++ (putInt n ++ r)) a.length = (n, ((a.length + (putInt n).length : Nat) : Int), 0) := by
  obtain ⟨hp, hz⟩ := putInt_vint h
  obtain ⟨c, h1, h2, h3⟩ := rdv_of (k := 9) r (z := zig n) (by omega) (by omega)
  have hd : rdv 9 ((a ++ (putInt n ++ r)).drop (a.length : Int).toNat) = some (zig n, (vintF 9 (zig n)).length - 1, c) := by
    rw [Int.toNat_natCast, List.drop_left, hp]; exact h1
  rw [unInt_ok (by omega) (by simp only [List.length_append]; omega) hd, unz_zig, hp]
  · congr 2
    omega
  · rintro (⟨h0, h4⟩ | h0)
    · rw [h2 h0, vintF_end (by omega)] at h4
      simp at h4
    · rw [unz_zig] at h0
      have := h.1
      omega
theorem rdN_put {n : Int} (h : okI n) (a r : Bytes) : rdN (a ++ (putInt n ++ r)) a.length = some (n, a.length + (putInt n).length) := by
  rw [rdN, unInt_put h, if_pos rfl]
  rfl
theorem rdNs_put : ∀ {l : List Int} (a r : Bytes), (∀ n ∈ l, okI n) → rdNs (a ++ (puts l ++ r)) l.length a.length = some (l, a.length + (puts l).length) := by
  intro l
  induction l using snocInd with
  | nil => intro a r _; simp [rdNs, puts]
  | snoc l n ih =>
    intro a r h
    have e1 : a ++ (puts (l ++ [n]) ++ r) = a ++ (puts l ++ (putInt n ++ r)) := by rw [puts_snoc]; simp
    rw [List.length_append, List.length_cons, List.length_nil, rdNs, e1, ih a (putInt n ++ r) (fun m hm => h m (by simp [hm])), Option.bind_some]
    have h2 := rdN_put (h n (by simp)) (a ++ puts l) r
    rw [List.length_append] at h2
    rw [show a ++ (puts l ++ (putInt n ++ r)) = (a ++ puts l) ++ (putInt n ++ r) by simp, h2, Option.bind_some, puts_snoc]
    simp [Nat.add_assoc]
theorem rdK_put {m : Int} (h : okI m) (a r : Bytes) : rdK (a ++ (putInt m ++ r)) a.length m = some (a.length + (putInt m).length) := by
  rw [rdK, rdN_put h, Option.bind_some, if_pos rfl]
theorem rdD_put (a r g : Bytes) (hg : g.length = 32) : rdD (a ++ (g ++ r)) a.length = some (g, a.length + 32) := by
  rw [rdD, if_pos (by simp only [List.length_append]; omega), List.take_append, List.take_of_length_le (by omega), Nat.add_sub_cancel_left, List.take_left' hg, List.drop_left]
theorem proxyOk_I {p : Proxy} (h : proxyOk p = true) : ∀ n ∈ [p.frm, p.to, p.rlo, p.rhi, p.slo, p.shi], okI n := by
  simp only [proxyOk, within, rangeOk, spellOk, Bool.and_eq_true, decide_eq_true_eq, bne_iff_ne] at h
  intro n hn
  simp only [List.mem_cons, List.not_mem_nil, or_false] at hn
  rcases hn with rfl | rfl | rfl | rfl | rfl | rfl <;> exact ⟨by omega, by omega⟩
theorem wishOk_I {w : Wish} (h : wishOk w = true) : ∀ n ∈ [w.signer, w.holder, w.rlo, w.rhi, w.carrier, w.serial, w.slo, w.shi], okI n := by
  simp only [wishOk, within, rangeOk, spellOk, Bool.and_eq_true, decide_eq_true_eq] at h
  intro n hn
  simp only [List.mem_cons, List.not_mem_nil, or_false] at hn
  rcases hn with rfl | rfl | rfl | rfl | rfl | rfl | rfl | rfl <;> exact ⟨by omega, by omega⟩
theorem puts_cons (n : Int) (l : List Int) : puts (n :: l) = putInt n ++ puts l := by simp [puts]
theorem rdP_put {p : Proxy} (h : proxyOk p = true) (hs : p.sig.length = 32) (a r : Bytes) : rdP (a ++ ((proxyText p ++ p.sig) ++ r)) a.length = some (p, a.length + (proxyText p ++ p.sig).length) := by
  have e : proxyText p = putInt 2 ++ puts [p.frm, p.to, p.rlo, p.rhi, p.slo, p.shi] := puts_cons _ _
  have h1 := rdK_put (m := 2) ⟨by decide, by decide⟩ a (puts [p.frm, p.to, p.rlo, p.rhi, p.slo, p.shi] ++ (p.sig ++ r))
  have h2 := rdNs_put (l := [p.frm, p.to, p.rlo, p.rhi, p.slo, p.shi]) (a ++ putInt 2) (p.sig ++ r) (proxyOk_I h)
  have h3 := rdD_put (a ++ putInt 2 ++ puts [p.frm, p.to, p.rlo, p.rhi, p.slo, p.shi]) r p.sig hs
  have hx : a ++ ((proxyText p ++ p.sig) ++ r) = a ++ (putInt 2 ++ (puts [p.frm, p.to, p.rlo, p.rhi, p.slo, p.shi] ++ (p.sig ++ r))) := by rw [e]; simp
  have hy : (a ++ putInt 2) ++ (puts [p.frm, p.to, p.rlo, p.rhi, p.slo, p.shi] ++ (p.sig ++ r)) = a ++ (putInt 2 ++ (puts [p.frm, p.to, p.rlo, p.rhi, p.slo, p.shi] ++ (p.sig ++ r))) := by simp
  have hz : (a ++ putInt 2 ++ puts [p.frm, p.to, p.rlo, p.rhi, p.slo, p.shi]) ++ (p.sig ++ r) = a ++ (putInt 2 ++ (puts [p.frm, p.to, p.rlo, p.rhi, p.slo, p.shi] ++ (p.sig ++ r))) := by simp
  rw [hy] at h2
  rw [hz] at h3
  rw [List.length_append] at h2
  rw [List.length_append, List.length_append] at h3
  rw [hx, rdP, h1, Option.bind_some, show (6 : Nat) = [p.frm, p.to, p.rlo, p.rhi, p.slo, p.shi].length from rfl, h2, Option.bind_some, h3, Option.bind_some, e]
  simp only [List.length_append, hs, Option.some.injEq, Prod.mk.injEq]
  exact ⟨rfl, by omega⟩
theorem rdW_put {w : Wish} (h : wishOk w = true) (hs : w.sig.length = 32) (a : Bytes) : rdW (a ++ (wishText w ++ w.sig)) a.length = some (w, a.length + (wishText w ++ w.sig).length) := by
  have e : wishText w = putInt 1 ++ puts [w.signer, w.holder, w.rlo, w.rhi, w.carrier, w.serial, w.slo, w.shi] := puts_cons _ _
  have h1 := rdK_put (m := 1) ⟨by decide, by decide⟩ a (puts [w.signer, w.holder, w.rlo, w.rhi, w.carrier, w.serial, w.slo, w.shi] ++ (w.sig ++ []))
  have h2 := rdNs_put (l := [w.signer, w.holder, w.rlo, w.rhi, w.carrier, w.serial, w.slo, w.shi]) (a ++ putInt 1) (w.sig ++ []) (wishOk_I h)
  have h3 := rdD_put (a ++ putInt 1 ++ puts [w.signer, w.holder, w.rlo, w.rhi, w.carrier, w.serial, w.slo, w.shi]) [] w.sig hs
  have hx : a ++ (wishText w ++ w.sig) = a ++ (putInt 1 ++ (puts [w.signer, w.holder, w.rlo, w.rhi, w.carrier, w.serial, w.slo, w.shi] ++ (w.sig ++ []))) := by rw [e]; simp
  have hy : (a ++ putInt 1) ++ (puts [w.signer, w.holder, w.rlo, w.rhi, w.carrier, w.serial, w.slo, w.shi] ++ (w.sig ++ [])) = a ++ (putInt 1 ++ (puts [w.signer, w.holder, w.rlo, w.rhi, w.carrier, w.serial, w.slo, w.shi] ++ (w.sig ++ []))) := by simp
  have hz : (a ++ putInt 1 ++ puts [w.signer, w.holder, w.rlo, w.rhi, w.carrier, w.serial, w.slo, w.shi]) ++ (w.sig ++ []) = a ++ (putInt 1 ++ (puts [w.signer, w.holder, w.rlo, w.rhi, w.carrier, w.serial, w.slo, w.shi] ++ (w.sig ++ []))) := by simp
  rw [hy] at h2
  rw [hz] at h3
  rw [List.length_append] at h2
  rw [List.length_append, List.length_append] at h3
  rw [hx, rdW, h1, Option.bind_some, show (8 : Nat) = [w.signer, w.holder, w.rlo, w.rhi, w.carrier, w.serial, w.slo, w.shi].length from rfl, h2, Option.bind_some, h3, Option.bind_some, e]
  simp only [List.length_append, hs, Option.some.injEq, Prod.mk.injEq]
  exact ⟨rfl, by omega⟩
def sealsT (l : List Proxy) : Bytes := l.flatMap fun p => proxyText p ++ p.sig
theorem rdPs_put : ∀ {l : List Proxy} (a r : Bytes), (∀ p ∈ l, proxyOk p = true ∧ p.sig.length = 32) → rdPs (a ++ (sealsT l ++ r)) l.length a.length = some (l, a.length + (sealsT l).length) := by
  intro l
  induction l using snocInd with
  | nil => intro a r _; simp [rdPs, sealsT]
  | snoc l p ih =>
    intro a r h
    have es : sealsT (l ++ [p]) = sealsT l ++ (proxyText p ++ p.sig) := by simp [sealsT]
    have e1 : a ++ (sealsT (l ++ [p]) ++ r) = a ++ (sealsT l ++ ((proxyText p ++ p.sig) ++ r)) := by rw [es]; simp
    rw [List.length_append, List.length_cons, List.length_nil, rdPs, e1, ih a _ (fun q hq => h q (by simp [hq])), Option.bind_some]
    have h2 := rdP_put (h p (by simp)).1 (h p (by simp)).2 (a ++ sealsT l) r
    rw [List.length_append] at h2
    rw [show a ++ (sealsT l ++ ((proxyText p ++ p.sig) ++ r)) = (a ++ sealsT l) ++ ((proxyText p ++ p.sig) ++ r) by simp, h2, Option.bind_some, es]
    simp [Nat.add_assoc]
theorem formedOk_parts {w : Wish} {l : List Proxy} (h : formedOk w l = true) : wishOk w = true ∧ l.length ≤ 4 ∧ ∀ p ∈ l, proxyOk p = true := by
  simp only [formedOk, Bool.and_eq_true, decide_eq_true_eq, List.all_eq_true] at h
  exact ⟨h.1, h.2.1, h.2.2⟩
theorem decode_enc {w : Wish} {l : List Proxy} (hf : formedOk w l = true) (hw : w.sig.length = 32) (hl : l.all (fun p => p.sig.length == 32) = true) : decodeOf (encText w l) = (w, l, 0) := by
  obtain ⟨f1, f2, f3⟩ := formedOk_parts hf
  have hl' : ∀ p ∈ l, p.sig.length = 32 := fun p hp => by simpa using List.all_eq_true.1 hl p hp
  refine decodeOf_some ?_
  have e0 : encText w l = [] ++ (putInt (l.length : Int) ++ (sealsT l ++ (wishText w ++ w.sig))) := by simp [encText, sealsT, puts]
  have h1 := rdN_put (n := (l.length : Int)) ⟨by omega, by omega⟩ [] (sealsT l ++ (wishText w ++ w.sig))
  have h2 := rdPs_put (l := l) (putInt (l.length : Int)) (wishText w ++ w.sig) (fun p hp => ⟨f3 p hp, hl' p hp⟩)
  have h3 := rdW_put f1 hw (putInt (l.length : Int) ++ sealsT l)
  rw [← e0] at h1
  rw [show putInt (l.length : Int) ++ (sealsT l ++ (wishText w ++ w.sig)) = encText w l by rw [e0]; simp] at h2
  rw [show (putInt (l.length : Int) ++ sealsT l) ++ (wishText w ++ w.sig) = encText w l by rw [e0]; simp] at h3
  rw [List.length_append] at h3
  have hlen : (encText w l).length = (putInt (l.length : Int)).length + (sealsT l).length + (wishText w ++ w.sig).length := by rw [e0]; simp only [List.length_append, List.length_nil]; omega
  have hwi : within (l.length : Int) 0 4 = true := by simp [within]; omega
  simp only [List.length_nil, Nat.zero_add] at h1
  rw [decO, rdHead, h1, Option.bind_some]
  dsimp only
  rw [if_pos hwi, Int.toNat_natCast, h2, Option.bind_some]
  dsimp only
  rw [h3, Option.bind_some]
  dsimp only
  rw [if_neg]
  rintro (h | h)
  · omega
  · rw [hf] at h; cases h
/-! ### What is read is written alike -/
theorem Made.enc {w : Wish} {l : List Proxy} (M : Made w l) : encode w l = (encText w l, 0) ∧ decodeOf (encText w l) = (w, l, 0) := by
  have h : l.all (fun p => p.sig.length == 32) = true := List.all_eq_true.2 fun p hp => by simpa using M.psig p hp
  exact ⟨by rw [encode, if_pos ⟨M.formed, M.sig, h⟩], decode_enc M.formed M.sig h⟩
/-! ### Account codes -/
theorem puts_inj {l m : List Int} (hl : l.length = m.length) (h1 : ∀ n ∈ l, okI n) (h2 : ∀ n ∈ m, okI n) (h : puts l = puts m) : l = m := by
  have e1 := rdNs_put [] [] h1
  have e2 := rdNs_put [] [] h2
  rw [h, hl, e2] at e1
  simp only [Option.some.injEq, Prod.mk.injEq] at e1
  exact e1.1.symm
section
variable {P : Program} {r : Option Nat} {n : Nat} {ds : List Deferred} {S0 : Nat → Prop} {w0 : World} {G L0 : List Asn} {f0 : Env} {Q : Exit → Act → World → Prop} {ops : Array Oper} {m : Nat} {wrl : List (Nat × Nat)} {prl R : List Nat}
end
end Go.TL
end
section
/- Regions that draw their order, in which one store (to a piece at hand, or to one that the region makes) need not wait for all that is named ahead of it. No program is named here. -/
set_option linter.unusedVariables false
set_option linter.unusedSimpArgs false
namespace Go.TL
theorem seps_under {L L' : List Asn} {A : Asn} (h : ∀ S w, Seps L S w → Seps L' S w) {S : Nat → Prop} {w : World} (hs : Seps (A :: L) S w) : Seps (A :: L') S w := by
  obtain ⟨S1, S2, h1, h2, hd, ha, hr⟩ := hs
  exact ⟨S1, S2, h1, h2, hd, ha, h _ _ hr⟩
theorem seps_take {L : List Asn} {A : Asn} {S : Nat → Prop} {w : World} (j : Nat) (hj : L[j]? = some A) (h : Seps (emp :: L) S w) : Seps (A :: L.set j emp) S w := by
  obtain ⟨F, f1, f2, f3⟩ := h.fam
  have hlt : j < L.length := (List.getElem?_eq_some_iff.1 hj).1
  refine Seps.of_fam (fun i => if i = 0 then F (j + 1) else if i = j + 1 then F 0 else F i) ?_ ?_ ?_
  · intro i b hb
    by_cases e : i = 0
    · simp only [e, if_true] at hb; exact f1 _ b hb
    · by_cases e' : i = j + 1
      · simp only [e', if_true] at hb; exact f1 _ b (by simpa using hb)
      · simp only [e, e', if_false] at hb; exact f1 _ b hb
  · intro i k b hne hi hk
    have inj : ∀ x y : Nat, x ≠ y → (if x = 0 then j + 1 else if x = j + 1 then 0 else x) ≠ (if y = 0 then j + 1 else if y = j + 1 then 0 else y) := by
      intro x y hxy
      split <;> split <;> (try split) <;> (try split) <;> omega
    have e1 : ∀ x, (if x = 0 then F (j + 1) else if x = j + 1 then F 0 else F x) = F (if x = 0 then j + 1 else if x = j + 1 then 0 else x) := by
      intro x
      split
      · rfl
      · split <;> rfl
    rw [e1] at hi hk
    exact f2 _ _ b (inj i k hne) hi hk
  · intro i B hB
    by_cases e : i = 0
    · subst e
      simp only [List.getElem?_cons_zero, Option.some.injEq] at hB
      subst hB
      simp only [if_true]
      exact f3 (j + 1) A (by simpa using hj)
    · obtain ⟨i, rfl⟩ : ∃ q, i = q + 1 := ⟨i - 1, by omega⟩
      rw [List.getElem?_cons_succ] at hB
      by_cases e' : i = j
      · subst e'
        rw [List.getElem?_set] at hB
        simp only [hlt, if_true, Option.some.injEq] at hB
        subst hB
        simp only [Nat.add_one_ne_zero, if_true, if_false]
        exact f3 0 emp rfl
      · rw [List.getElem?_set_ne (fun h => e' h.symm)] at hB
        simp only [Nat.add_one_ne_zero, Nat.add_right_cancel_iff, e', if_false]
        exact f3 (i + 1) B (by simpa using hB)
section
variable {γ : Type}
def mixLx (pr : Nat → Nat → Bool) (sp : List (Spec γ)) (L0 : List Asn) (m J I q : Nat) (ρ : Nat → γ) (X0 : Asn) (X : Nat → Asn) : List Asn :=
  (X0 :: (List.range m).map (fun p => bif (pr q p && !(Nat.beq p J) && !(Nat.beq p I)) then (sp.getD p dspec).c ρ else X p)) ++ L0
def lLx (sp : List (Spec γ)) (L0 : List Asn) (m J I : Nat) (A0 : Asn) (listed : Array Bool) (ρ : Nat → γ) : List Asn :=
  ((bif isL listed J then (sp.getD J dspec).c ρ else A0) :: (List.range m).map (fun p => bif (isL listed p && !(Nat.beq p J) && !(isL listed J && Nat.beq p I)) then (sp.getD p dspec).c ρ else emp)) ++ L0
def fullLx (sp : List (Spec γ)) (L0 : List Asn) (m J I : Nat) (ρ : Nat → γ) : List Asn :=
  ((sp.getD J dspec).c ρ :: (List.range m).map (fun p => bif (!(Nat.beq p J) && !(Nat.beq p I)) then (sp.getD p dspec).c ρ else emp)) ++ L0
theorem lLx_set {sp : List (Spec γ)} {L0 : List Asn} {m J I : Nat} {A0 : Asn} {listed : Array Bool} {ρ ρ' : Nat → γ} {j : Nat} (hjs : j < listed.size) (hnl : isL listed j = false) (hne : j ≠ J) (hI : isL listed J = true → j ≠ I)
    (hsame : ∀ p, p ≠ j → isL listed p = true → (sp.getD p dspec).c ρ' = (sp.getD p dspec).c ρ) (hmi : j < m) :
    (lLx sp L0 m J I A0 listed ρ).set (j + 1) ((sp.getD j dspec).c ρ') = lLx sp L0 m J I A0 (listed.setIfInBounds j true) ρ' := by
  have hlj : isL (listed.setIfInBounds j true) j = true := by simp [isL, Array.getD_eq_getD_getElem?, hjs]
  have hl : ∀ p, p ≠ j → isL (listed.setIfInBounds j true) p = isL listed p := fun p e => by simp [isL, Array.getD_eq_getD_getElem?, Array.getElem?_setIfInBounds_ne (fun h => e h.symm)]
  unfold lLx
  rw [List.cons_append, List.cons_append, List.set_cons_succ, List.set_append_left _ _ (by simpa using hmi), hl J (fun e => hne e.symm)]
  congr 1
  · cases hb : isL listed J with
    | false => rfl
    | true => simp only [_root_.cond_true]; exact (hsame J (fun e => hne e.symm) hb).symm
  · congr 1
    apply List.ext_getElem?
    intro p
    by_cases hp : p < m
    · by_cases e : p = j
      · subst e
        have h1 : Nat.beq p J = false := beq_false hne
        have h2 : (isL listed J && Nat.beq p I) = false := by
          cases hb : isL listed J with
          | false => rfl
          | true => rw [Bool.true_and]; exact beq_false (hI hb)
        simp only [List.getElem?_set, List.length_map, List.length_range, hp, if_true, List.getElem?_map, List.getElem?_range, Option.map_some, hlj, h1, h2, Bool.not_false, Bool.and_true, _root_.cond_true]
      · rw [List.getElem?_set_ne (fun h => e h.symm)]
        simp only [List.getElem?_map, List.getElem?_range, hp, if_true, Option.map_some, Option.some.injEq, hl p e]
        cases hb : isL listed p with
        | false => simp only [Bool.false_and, _root_.cond_false]
        | true => rw [hsame p e hb]
    · simp [hp]
end
section
variable {P : Program} {r : Option Nat} {n : Nat} {ds : List Deferred} {S0 : Nat → Prop} {w0 : World} {G L0 : List Asn} {f0 : Env} {Q : Exit → Act → World → Prop} {ops : Array Oper} {γ : Type} {m : Nat} {wr : Nat → Option Nat} {pr : Nat → Nat → Bool} {R : List Nat} {J I : Nat} {A0 : Asn}
def ObPx (P : Program) (r : Option Nat) (n : Nat) (ds : List Deferred) (S0 : Nat → Prop) (w0 : World) (G : List Asn) (ops : Array Oper) (m : Nat) (wr : Nat → Option Nat) (pr : Nat → Nat → Bool) (J I : Nat) (L0 : List Asn) (f0 : Env) (sp : List (Spec γ)) (j : Nat) (o : Oper) (s : Spec γ) : Prop :=
  ∀ (ρ : Nat → γ) (g : Env) (X0 : Asn) (X : Nat → Asn) (Q' : Exit → Act → World → Prop), TO P r n ds S0 w0 G ops Q' [] (mixLx pr sp L0 m J I j ρ X0 X) (put (mixE wr pr sp f0 j ρ g) o.dst (s.v ρ)) → TO P r n ds S0 w0 G ops Q' [o] (mixLx pr sp L0 m J I j ρ X0 X) (mixE wr pr sp f0 j ρ g)
def ObRx (P : Program) (r : Option Nat) (n : Nat) (ds : List Deferred) (S0 : Nat → Prop) (w0 : World) (G : List Asn) (ops : Array Oper) (m : Nat) (wr : Nat → Option Nat) (pr : Nat → Nat → Bool) (J I : Nat) (L0 : List Asn) (f0 : Env) (sp : List (Spec γ)) (j : Nat) (o : Oper) (s : Spec γ) : Prop :=
  ∀ (ρ : Nat → γ) (g : Env) (X0 : Asn) (X : Nat → Asn) (Q' : Exit → Act → World → Prop), (∀ x, TO P r n ds S0 w0 G ops Q' [] (s.c (gupd ρ j x) :: mixLx pr sp L0 m J I j ρ X0 X) (put (mixE wr pr sp f0 j ρ g) o.dst (s.v (gupd ρ j x)))) → TO P r n ds S0 w0 G ops Q' [o] (mixLx pr sp L0 m J I j ρ X0 X) (mixE wr pr sp f0 j ρ g)
def ObTx (P : Program) (r : Option Nat) (n : Nat) (ds : List Deferred) (S0 : Nat → Prop) (w0 : World) (G : List Asn) (ops : Array Oper) (m : Nat) (wr : Nat → Option Nat) (pr : Nat → Nat → Bool) (J I : Nat) (A0 : Asn) (L0 : List Asn) (f0 : Env) (sp : List (Spec γ)) (j : Nat) (o : Oper) (s : Spec γ) : Prop :=
  ∀ (ρ : Nat → γ) (g : Env) (X : Nat → Asn) (Q' : Exit → Act → World → Prop), (I < m → X I = (sp.getD I dspec).c ρ) → TO P r n ds S0 w0 G ops Q' [] (mixLx pr sp L0 m J I j ρ (s.c ρ) (fun p => bif Nat.beq p I then emp else X p)) (put (mixE wr pr sp f0 j ρ g) o.dst (s.v ρ)) → TO P r n ds S0 w0 G ops Q' [o] (mixLx pr sp L0 m J I j ρ A0 X) (mixE wr pr sp f0 j ρ g)
structure Owedx (P : Program) (r : Option Nat) (n : Nat) (ds : List Deferred) (S0 : Nat → Prop) (w0 : World) (G : List Asn) (ops : Array Oper) (m : Nat) (wr : Nat → Option Nat) (pr : Nat → Nat → Bool) (R : List Nat) (J I : Nat) (A0 : Asn) (L0 : List Asn) (f0 : Env) (sp : List (Spec γ)) (j : Nat) (s : Spec γ) : Prop where
  ind : Ind pr R j s
  ob : ∃ o, ops[j]? = some o ∧ ((j ≠ J ∧ ObPx P r n ds S0 w0 G ops m wr pr J I L0 f0 sp j o s ∧ j ∉ R ∧ ∀ ρ, s.c ρ = emp) ∨ (j ≠ J ∧ ObRx P r n ds S0 w0 G ops m wr pr J I L0 f0 sp j o s ∧ j ∈ R) ∨ (j = J ∧ ObTx P r n ds S0 w0 G ops m wr pr J I A0 L0 f0 sp j o s ∧ j ∉ R))
def DRx (P : Program) (r : Option Nat) (n : Nat) (ds : List Deferred) (S0 : Nat → Prop) (w0 : World) (G : List Asn) (Q : Exit → Act → World → Prop) (ops : Array Oper) (m : Nat) (wr : Nat → Option Nat) (pr : Nat → Nat → Bool) (R : List Nat) (J I : Nat) (A0 : Asn) (L0 : List Asn) (f0 : Env) (j : Nat) (sp : List (Spec γ)) : Prop :=
  sp.length = j ∧ ∃ sp', sp.length + sp'.length = m ∧ (∀ k, k < sp'.length → Owedx P r n ds S0 w0 G ops m wr pr R J I A0 L0 f0 (sp ++ sp'.take k) (sp.length + k) (sp'.getD k dspec)) ∧
    ∀ ρ, TO P r n ds S0 w0 G ops Q (ops.toList.drop m) (fullLx (sp ++ sp') L0 m J I ρ) (fullE wr (sp ++ sp') f0 ρ)
theorem DRx.step {j : Nat} {sp : List (Spec γ)} (s : Spec γ) (hsp : sp.length = j) (ho : Owedx P r n ds S0 w0 G ops m wr pr R J I A0 L0 f0 sp j s) (h : DRx P r n ds S0 w0 G Q ops m wr pr R J I A0 L0 f0 (j + 1) (sp ++ [s])) : DRx P r n ds S0 w0 G Q ops m wr pr R J I A0 L0 f0 j sp := by
  obtain ⟨h1, sp', h2, h3, h4⟩ := h
  refine ⟨hsp, s :: sp', by simp at h2 ⊢; omega, fun k hk => ?_, fun ρ => by have := h4 ρ; simpa using this⟩
  cases k with
  | zero => simp only [List.take_zero, List.append_nil, Nat.add_zero, hsp]; exact ho
  | succ k =>
    have := h3 k (by simpa using hk)
    simp only [List.length_append, List.length_cons, List.length_nil] at this
    simp only [List.take_succ_cons]
    rw [show sp.length + (k + 1) = sp.length + (0 + 1) + k from by omega, show sp ++ s :: List.take k sp' = sp ++ [s] ++ List.take k sp' from by simp]
    simpa using this
theorem DRx.done {sp : List (Spec γ)} (hsp : sp.length = m) (h : ∀ ρ, TO P r n ds S0 w0 G ops Q (ops.toList.drop m) (fullLx sp L0 m J I ρ) (fullE wr sp f0 ρ)) : DRx P r n ds S0 w0 G Q ops m wr pr R J I A0 L0 f0 m sp :=
  ⟨hsp, [], by simpa using hsp, fun k hk => by simp at hk, fun ρ => by simpa using h ρ⟩
theorem T.drawX0 (hmix : P.follows .mixedOrders = true) {id : Nat} (wrl : List (Nat × Nat)) (prl R : List Nat) (hok : drawOk ops.toList m wrl prl = true) (hJm : J < m) (hI : I < m → prOf prl J I = true)
    (h : DRx P r n ds S0 w0 G Q ops m (wrOf wrl) (prOf prl) R J I A0 L0 f0 0 ([] : List (Spec γ))) [Inhabited γ] : T P r n ds S0 w0 G Q (.region id ops true) (A0 :: L0) f0 := fun w hw => by
  have hd := DrawOk.of hok
  generalize wrOf wrl = wr at *
  generalize prOf prl = pr at *
  obtain ⟨_, sp, hlen, hob, hfin⟩ := h
  simp only [List.length_nil, Nat.zero_add, List.nil_append] at hlen hob hfin
  refine wpIn_region_any hmix ?_
  -- the invariant
  let Cl : Array Bool → Prop := fun listed => ∀ q, isL listed q = true → ∀ p, pr q p = true → isL listed p = true
  let Hd : Array Bool → Act → World → Prop := fun listed a w => (∀ k, m ≤ k → isL listed k = false) ∧ ∃ ρ, a = act n (lE wr sp f0 listed ρ) ds ∧ St S0 w0 G (lLx sp L0 m J I A0 listed ρ) w
  let Tl : Array Bool → Act → World → Prop := fun listed a w => ∃ k, m ≤ k ∧ k ≤ ops.size ∧ (∀ j, j < k → isL listed j = true) ∧ (∀ j, k ≤ j → isL listed j = false) ∧ wpL P r ops Q (ops.toList.drop k) a w
  have hready : ∀ (listed : Array Bool) (j : Nat), Cl listed → j ∈ Region.ready .any ops listed → ∀ p, pr j p = true → isL listed p = true := by
    intro listed j hcl hj p hp
    obtain ⟨_, _, o, ho, he⟩ := mem_ready' hj
    obtain ⟨_, e, hmem, hb, hor⟩ := hd.clos j o ho p hp
    rcases hor with rfl | hpr
    · exact he e hmem hb
    · exact hcl e.on (he e hmem hb) p hpr
  have toTl : ∀ (listed : Array Bool) (a : Act) (w : World), (∀ j, j < m → isL listed j = true) → Hd listed a w → Tl listed a w := by
    rintro listed a w hall ⟨hnot, ρ, rfl, hst⟩
    refine ⟨m, Nat.le_refl _, hd.hm, hall, hnot, ?_⟩
    have e1 : lE wr sp f0 listed ρ = fullE wr sp f0 ρ := by
      funext t
      simp only [lE, fullE]
      cases hw : wr t with
      | none => rfl
      | some p => simp only [hall p (hd.wrm t p hw).1, _root_.cond_true]
    have e2 : lLx sp L0 m J I A0 listed ρ = fullLx sp L0 m J I ρ := by
      unfold lLx fullLx
      rw [hall J hJm]
      simp only [_root_.cond_true, Bool.true_and]
      congr 2
      apply List.map_congr_left
      intro p hp
      rw [hall p (by simpa using hp), Bool.true_and]
    rw [e1]
    rw [e2] at hst
    exact hfin ρ w hst
  have main : ∀ (fuel : Nat) (listed : Array Bool) (a : Act) (w : World), listed.size = ops.size → listed.toList.countP (fun b => !b) ≤ fuel → Cl listed → (Hd listed a w ∨ Tl listed a w) → wpAnyIn (Wd r) 0 P .any ops Q fuel listed a w := by
    have hend : ∀ (listed : Array Bool) (a : Act) (w : World), listed.size = ops.size → Cl listed → (Hd listed a w ∨ Tl listed a w) → Region.ready .any ops listed = [] → Q .normal a w := by
      intro listed a w hsz hcl hI hr
      have hall : ∀ j, j < ops.size → isL listed j = true := by
        intro j
        induction j using Nat.strongRecOn with
        | _ j ih =>
          intro hj
          cases hb : isL listed j with
          | true => rfl
          | false =>
            exfalso
            have : j ∈ Region.ready .any ops listed := by
              simp only [Region.ready, List.mem_filter, List.mem_range, Bool.and_eq_true, Bool.not_eq_true', hj, true_and]
              refine ⟨?_, ?_⟩
              · have hj' : j < listed.size := by omega
                simp only [isL, Array.getD_eq_getD_getElem?, hj', Array.getElem?_eq_getElem, Option.getD_some] at hb ⊢
                exact hb
              · simp only [hj, Array.getElem?_eq_getElem, Option.map_some, Option.getD_some, Array.all_eq_true']
                intro e he
                cases hbe : Region.binds .any e with
                | false => rfl
                | true =>
                  have hlt := hd.back j ops[j] (by simp [hj]) e he hbe
                  have := ih e.on hlt (by omega)
                  simpa [isL] using this
            rw [hr] at this
            cases this
      have hT : Tl listed a w := hI.elim (fun h => toTl listed a w (fun j hj => hall j (Nat.lt_of_lt_of_le hj hd.hm)) h) (fun h => h)
      obtain ⟨k, hk1, hk2, _, hk4, hk5⟩ := hT
      have hk : k = ops.size := by
        rcases Nat.lt_or_ge k ops.size with h | h
        · have h1 := hk4 k (Nat.le_refl _)
          rw [hall k h] at h1
          cases h1
        · omega
      subst hk
      rw [List.drop_eq_nil_of_le (by simp)] at hk5
      exact hk5
    intro fuel
    induction fuel with
    | zero =>
      intro listed a w hsz hc hcl hI
      have hr : Region.ready .any ops listed = [] := by
        cases hr : Region.ready .any ops listed with
        | nil => rfl
        | cons x xs =>
          exfalso
          obtain ⟨h1, h2, _⟩ := mem_ready' (listed := listed) (j := x) (ops := ops) (by rw [hr]; simp)
          have hx : x < listed.size := by omega
          simp only [Array.getD_eq_getD_getElem?, hx, Array.getElem?_eq_getElem, Option.getD_some] at h2
          have : 0 < listed.toList.countP (fun b => !b) := List.countP_pos_iff.2 ⟨listed[x], by simp, by simp [h2]⟩
          omega
      exact ⟨hr, hend listed a w hsz hcl hI hr⟩
    | succ fuel ih =>
      intro listed a w hsz hc hcl hI
      refine ⟨hend listed a w hsz hcl hI, fun i hi => ?_⟩
      obtain ⟨hi1, hi2, o, ho, hedge⟩ := mem_ready' hi
      have his : i < listed.size := by omega
      have hnl : isL listed i = false := by
        simp only [isL, Array.getD_eq_getD_getElem?, his, Array.getElem?_eq_getElem, Option.getD_some] at hi2 ⊢
        exact hi2
      have hcount : (listed.setIfInBounds i true).toList.countP (fun b => !b) ≤ fuel := by
        have h2' : listed.toList[i]'(by simpa using his) = false := by
          simp only [Array.getD_eq_getD_getElem?, his, Array.getElem?_eq_getElem, Option.getD_some] at hi2
          simpa using hi2
        have := List.countP_set (p := fun b : Bool => !b) (l := listed.toList) (i := i) (a := true) (h := by simpa using his)
        simp only [h2', Bool.not_false, Bool.not_true, if_true] at this
        rw [Array.toList_setIfInBounds, this]
        simp only [Bool.false_eq_true, if_false]
        have hpos : 0 < listed.toList.countP (fun b => !b) := List.countP_pos_iff.2 ⟨listed.toList[i]'(by simpa using his), List.getElem_mem _, by simp [h2']⟩
        omega
      have hsz' : (listed.setIfInBounds i true).size = ops.size := by simpa using hsz
      have hlj : isL (listed.setIfInBounds i true) i = true := by simp [isL, Array.getD_eq_getD_getElem?, his]
      have hl : ∀ p, p ≠ i → isL (listed.setIfInBounds i true) p = isL listed p := fun p e => by simp [isL, Array.getD_eq_getD_getElem?, Array.getElem?_setIfInBounds_ne (fun h => e h.symm)]
      have hcl' : Cl (listed.setIfInBounds i true) := by
        intro q hq p hp
        by_cases ep : p = i
        · rw [ep]; exact hlj
        · rw [hl p ep]
          by_cases eq : q = i
          · subst eq; exact hready listed q hcl hi p hp
          · rw [hl q eq] at hq; exact hcl q hq p hp
      have next : ∀ a' w', (Hd (listed.setIfInBounds i true) a' w' ∨ Tl (listed.setIfInBounds i true) a' w') → wpAnyIn (Wd r) 0 P .any ops Q fuel (listed.setIfInBounds i true) a' w' := fun a' w' h => ih _ a' w' hsz' hcount hcl' h
      -- the tail's step
      have tailStep : Tl listed a w → wpOpIn (Wd r) 0 P ops Q i (wpAnyIn (Wd r) 0 P .any ops Q fuel (listed.setIfInBounds i true)) a w := by
        rintro ⟨k, hk1, hk2, hk3, hk4, hk5⟩
        have hik : i = k := by
          rcases Nat.lt_trichotomy i k with h | h | h
          · rw [hk3 i h] at hnl; cases hnl
          · exact h
          · have := hready listed i hcl hi k (hd.tail i (by omega) hi1 k h)
            rw [hk4 k (Nat.le_refl _)] at this
            cases this
        subst hik
        have hdrop : ops.toList.drop i = o :: ops.toList.drop (i + 1) := by
          rw [List.drop_eq_getElem_cons (by simpa using hi1)]
          congr 1
          have := Array.getElem?_eq_some_iff.1 ho
          obtain ⟨_, h⟩ := this
          simpa using h
        rw [hdrop] at hk5
        have nextT : ∀ a' w', wpL P r ops Q (ops.toList.drop (i + 1)) a' w' → wpAnyIn (Wd r) 0 P .any ops Q fuel (listed.setIfInBounds i true) a' w' := fun a' w' h =>
          next a' w' (.inr ⟨i + 1, by omega, by omega, fun j hj => by
            by_cases e : j = i
            · rw [e]; exact hlj
            · rw [hl j e]; exact hk3 j (by omega), fun j hj => by rw [hl j (by omega)]; exact hk4 j (by omega), h⟩)
        simp only [wpL] at hk5
        simp only [wpOpIn, ho]
        split
        · rename_i hw'
          rw [if_pos hw'] at hk5
          exact Oper.wpIn_mono nextT hk5
        · rename_i hw'
          rw [if_neg hw'] at hk5
          exact ⟨fun _ _ => trivial, nextT _ _ hk5⟩
      rcases hI with hH | hT
      · by_cases him : i < m
        · -- a step of the head
          obtain ⟨hnot, ρ, rfl, hst⟩ := hH
          have hlt : i < sp.length := by omega
          obtain ⟨hind, o', ho', hob'⟩ := hob i hlt
          rw [ho] at ho'
          cases ho'
          have hpl : ∀ p, pr i p = true → isL listed p = true := hready listed i hcl hi
          have hpi : ∀ p, pr i p = true → p < i := fun p hp => (hd.clos i o ho p hp).1
          have hgd : ∀ p, p < i → (sp.take i).getD p dspec = sp.getD p dspec := fun p hp => by simp [List.getD_eq_getElem?_getD, List.getElem?_take, hp]
          have eE : mixE wr pr (sp.take i) f0 i ρ (lE wr sp f0 listed ρ) = lE wr sp f0 listed ρ := by
            funext t
            simp only [mixE, lE]
            cases hw : wr t with
            | none => rfl
            | some p =>
              cases hp : pr i p with
              | true => simp only [hp, _root_.cond_true, hpl p hp, hgd p (hpi p hp)]
              | false =>
                cases hq : (pr p i || Nat.beq p i) with
                | false => simp only [hp, hq, _root_.cond_false]
                | true =>
                  have : isL listed p = false := by
                    rcases Bool.or_eq_true_iff.1 hq with h | h
                    · cases hb : isL listed p with
                      | false => rfl
                      | true => rw [hcl p hb i h] at hnl; cases hnl
                    · rw [Nat.eq_of_beq_eq_true h]; exact hnl
                  simp only [hp, hq, _root_.cond_false, _root_.cond_true, this]
          have eL : mixLx pr (sp.take i) L0 m J I i ρ (bif isL listed J then (sp.getD J dspec).c ρ else A0) (fun p => bif (isL listed p && !(Nat.beq p J) && !(isL listed J && Nat.beq p I)) then (sp.getD p dspec).c ρ else emp) = lLx sp L0 m J I A0 listed ρ := by
            unfold mixLx lLx
            congr 2
            apply List.map_congr_left
            intro p _
            cases hp : pr i p with
            | true =>
              cases h1 : Nat.beq p J with
              | true => simp only [h1, Bool.not_true, Bool.and_false, Bool.false_and, _root_.cond_false]
              | false =>
                cases h2 : Nat.beq p I with
                | true => simp only [h1, h2, Bool.not_true, Bool.not_false, Bool.and_false, Bool.and_true, _root_.cond_false]
                | false => simp only [h1, h2, Bool.not_false, Bool.and_false, Bool.and_true, _root_.cond_true, hpl p hp, hgd p (hpi p hp)]
            | false => simp only [Bool.false_and, _root_.cond_false]
          have hIJ : isL listed J = true → I < m → isL listed I = true := fun h1 h2 => hcl J h1 I (hI h2)
          have hnot' : ∀ k, m ≤ k → isL (listed.setIfInBounds i true) k = false := fun k hk => by rw [hl k (by omega)]; exact hnot k hk
          -- what is done abides another ghost of i
          have hsame : ∀ p, p ≠ i → isL listed p = true → i ∈ R → ∀ x, (sp.getD p dspec).v (gupd ρ i x) = (sp.getD p dspec).v ρ ∧ (sp.getD p dspec).c (gupd ρ i x) = (sp.getD p dspec).c ρ := by
            intro p hp hpl' hiR x
            by_cases hps : p < sp.length
            · refine (hob p hps).ind i hiR (fun e => hp e.symm) ?_ ρ x
              cases hb : pr p i with
              | false => rfl
              | true => rw [hcl p hpl' i hb] at hnl; cases hnl
            · have : sp.getD p dspec = dspec := by simp [List.getD_eq_getElem?_getD, List.getElem?_eq_none (Nat.not_lt.1 hps)]
              rw [this]
              exact ⟨rfl, rfl⟩
          have conclude : TO P r n ds S0 w0 G ops (fun e a' w' => match e with | .normal => wpAnyIn (Wd r) 0 P .any ops Q fuel (listed.setIfInBounds i true) a' w' | e => Q e a' w') [o] (lLx sp L0 m J I A0 listed ρ) (lE wr sp f0 listed ρ) → wpOpIn (Wd r) 0 P ops Q i (wpAnyIn (Wd r) 0 P .any ops Q fuel (listed.setIfInBounds i true)) (act n (lE wr sp f0 listed ρ) ds) w := by
            intro hto
            have h1 := hto w hst
            simp only [wpL] at h1
            simp only [wpOpIn, ho]
            split
            · rename_i hw'
              rw [if_pos hw'] at h1
              refine ⟨fun _ _ => trivial, ?_⟩
              have h2 := h1.2
              generalize (Oper.semAt (Wd r).round (act n (lE wr sp f0 listed ρ) ds).eval o).run P w = z at h2 ⊢
              cases z with
              | ok y w' =>
                cases y <;> simp only [Oper.uponIn] at h2 ⊢ <;> first
                  | exact h2
                  | exact ⟨h2.1, CallsIn.mono h2.2 (fun e w'' he => by cases e <;> first | exact he | (obtain ⟨a0, w0', hq⟩ := he; exact ⟨a0, w0', hq⟩))⟩
                  | exact ⟨h2.1, RoundIn.mono h2.2 (fun e w'' he => by cases e <;> first | exact he | (obtain ⟨a0, w0', hq⟩ := he; exact ⟨a0, w0', hq⟩))⟩
              | halt y w' => cases y <;> simp only [Oper.uponIn] at h2 ⊢ <;> exact h2
            · rename_i hw'
              rw [if_neg hw'] at h1
              exact ⟨fun _ _ => trivial, h1⟩
          have QQ : ∀ e : Exit, True := fun _ => trivial
          rcases hob' with ⟨hne, hP, hnR, hemp⟩ | ⟨hne, hR, hiR⟩ | ⟨hiJ, hT, hnR⟩
          · refine conclude ?_
            have := hP ρ (lE wr sp f0 listed ρ) (bif isL listed J then (sp.getD J dspec).c ρ else A0) (fun p => bif (isL listed p && !(Nat.beq p J) && !(isL listed J && Nat.beq p I)) then (sp.getD p dspec).c ρ else emp) (fun e a' w' => match e with | .normal => wpAnyIn (Wd r) 0 P .any ops Q fuel (listed.setIfInBounds i true) a' w' | e => Q e a' w')
            rw [eE, eL] at this
            refine this fun w' hst' => ?_
            show wpAnyIn (Wd r) 0 P .any ops Q fuel (listed.setIfInBounds i true) _ w'
            refine next _ _ (.inl ⟨hnot', ρ, ?_, ?_⟩)
            · rw [lE_set hd ho him his (fun _ _ _ => rfl)]
            · rw [← lLx_set (hmi := him) (ρ := ρ) his hnl hne (fun h1 => by rintro rfl; rw [hIJ h1 him] at hnl; cases hnl) (fun _ _ _ => rfl), hemp]
              refine hst'.conv fun S w'' hs => ?_
              have hj : (lLx sp L0 m J I A0 listed ρ)[i + 1]? = some emp := by
                unfold lLx
                rw [List.cons_append, List.getElem?_cons_succ, List.getElem?_append_left (by simpa using him)]
                simp [him, hnl]
              have hset : (lLx sp L0 m J I A0 listed ρ).set (i + 1) emp = lLx sp L0 m J I A0 listed ρ := by
                apply List.ext_getElem?
                intro q
                by_cases e : q = i + 1
                · subst e; rw [hj, List.getElem?_set]; simp [(List.getElem?_eq_some_iff.1 hj).1]
                · rw [List.getElem?_set_ne (fun h => e h.symm)]
              rw [hset]
              exact hs
          · refine conclude ?_
            have := hR ρ (lE wr sp f0 listed ρ) (bif isL listed J then (sp.getD J dspec).c ρ else A0) (fun p => bif (isL listed p && !(Nat.beq p J) && !(isL listed J && Nat.beq p I)) then (sp.getD p dspec).c ρ else emp) (fun e a' w' => match e with | .normal => wpAnyIn (Wd r) 0 P .any ops Q fuel (listed.setIfInBounds i true) a' w' | e => Q e a' w')
            rw [eE, eL] at this
            refine this fun x w' hst' => ?_
            show wpAnyIn (Wd r) 0 P .any ops Q fuel (listed.setIfInBounds i true) _ w'
            refine next _ _ (.inl ⟨hnot', gupd ρ i x, ?_, ?_⟩)
            · rw [lE_set hd ho him his (fun p hp hpl' => (hsame p hp hpl' hiR x).1)]
            · rw [← lLx_set (hmi := him) (ρ := ρ) his hnl hne (fun h1 => by rintro rfl; rw [hIJ h1 him] at hnl; cases hnl) (fun p hp hpl' => (hsame p hp hpl' hiR x).2)]
              refine hst'.conv fun S w'' hs => ?_
              refine Seps.put_emp (i + 1) ?_ hs
              unfold lLx
              rw [List.cons_append, List.getElem?_cons_succ, List.getElem?_append_left (by simpa using him)]
              simp [him, hnl]
          · subst hiJ
            refine conclude ?_
            have := hT ρ (lE wr sp f0 listed ρ) (fun p => bif (isL listed p && !(Nat.beq p i) && !(isL listed i && Nat.beq p I)) then (sp.getD p dspec).c ρ else emp) (fun e a' w' => match e with | .normal => wpAnyIn (Wd r) 0 P .any ops Q fuel (listed.setIfInBounds i true) a' w' | e => Q e a' w') (fun hIm => by
              have h1 := hpl I (hI hIm)
              have h2 : Nat.beq I i = false := by
                cases h : Nat.beq I i with
                | false => rfl
                | true => rw [Nat.eq_of_beq_eq_true h, hnl] at h1; cases h1
              simp only [h1, h2, hnl, Bool.not_false, Bool.false_and, Bool.and_true, _root_.cond_true]
              rw [hgd I (hpi I (hI hIm))])
            have eL' := eL
            rw [hnl, _root_.cond_false] at eL'
            rw [hnl] at this
            rw [eE, eL'] at this
            refine this fun w' hst' => ?_
            show wpAnyIn (Wd r) 0 P .any ops Q fuel (listed.setIfInBounds i true) _ w'
            refine next _ _ (.inl ⟨hnot', ρ, ?_, ?_⟩)
            · rw [lE_set hd ho him his (fun _ _ _ => rfl)]
            · refine hst'.conv fun S w'' hs => ?_
              have e3 : mixLx pr (sp.take i) L0 m i I i ρ ((sp.getD i dspec).c ρ) (fun p => bif Nat.beq p I then emp else bif (isL listed p && !(Nat.beq p i) && !(false && Nat.beq p I)) then (sp.getD p dspec).c ρ else emp) = lLx sp L0 m i I A0 (listed.setIfInBounds i true) ρ := by
                unfold mixLx lLx
                rw [hlj, _root_.cond_true]
                congr 2
                apply List.map_congr_left
                intro p _
                have hlp : Nat.beq p i = false → isL (listed.setIfInBounds i true) p = isL listed p := fun h => hl p (fun e => by rw [e] at h; simp at h)
                cases h1 : Nat.beq p i with
                | true => cases h2 : Nat.beq p I <;> simp only [h1, h2, Bool.not_true, Bool.not_false, Bool.and_false, Bool.false_and, _root_.cond_false, _root_.cond_true]
                | false =>
                  rw [hlp h1]
                  cases h2 : Nat.beq p I with
                  | true => simp only [h1, h2, Bool.not_true, Bool.not_false, Bool.and_false, Bool.and_true, Bool.true_and, _root_.cond_false, _root_.cond_true]
                  | false =>
                    cases hp : pr i p with
                    | true => simp only [h1, h2, Bool.not_false, Bool.and_false, Bool.and_true, Bool.true_and, _root_.cond_true, hpl p hp, hgd p (hpi p hp)]
                    | false => simp only [h1, h2, Bool.not_false, Bool.and_false, Bool.and_true, Bool.false_and, Bool.true_and, _root_.cond_false]
              rw [← e3]
              exact hs
        · -- the tail begins
          refine tailStep (toTl listed a w (fun j hj => ?_) hH)
          exact hready listed i hcl hi j (hd.tail i (Nat.not_lt.1 him) hi1 j (by omega))
      · exact tailStep hT
  refine main ops.size _ _ _ (by simp) ?_ (fun q hq => by simp [isL, Array.getD_eq_getD_getElem?, Array.getElem?_replicate] at hq; split at hq <;> simp at hq) (.inl ⟨fun k _ => ?_, fun _ => default, ?_, ?_⟩)
  · exact Nat.le_trans List.countP_le_length (by simp)
  · simp only [isL, Array.getD_eq_getD_getElem?, Array.getElem?_replicate]; split <;> rfl
  · congr 1
    funext t
    simp only [lE]
    cases wr t with
    | none => rfl
    | some p =>
      have : isL (Array.replicate ops.size false) p = false := by simp only [isL, Array.getD_eq_getD_getElem?, Array.getElem?_replicate]; split <;> rfl
      simp only [this, _root_.cond_false]
  · refine (hw.drew).conv fun S w' hs => ?_
    have hall : ∀ p, isL (Array.replicate ops.size false) p = false := fun p => by simp only [isL, Array.getD_eq_getD_getElem?, Array.getElem?_replicate]; split <;> rfl
    have : lLx sp L0 m J I A0 (Array.replicate ops.size false) (fun _ => default) = A0 :: ((List.range m).map (fun _ => emp) ++ L0) := by
      unfold lLx
      rw [hall J, _root_.cond_false, List.cons_append]
      congr 2
      apply List.map_congr_left
      intro p _
      simp only [hall p, Bool.false_and, _root_.cond_false]
    rw [this]
    clear this
    refine seps_under (fun S w' hs => ?_) hs
    refine Seps.app (S1 := fun _ => False) (S2 := S) (fun _ h => h.elim) (fun _ h => h) (fun _ h => h.elim) ?_ hs
    generalize List.range m = l
    induction l with
    | nil => trivial
    | cons q l ih => exact ⟨fun _ => False, fun _ => False, fun _ h => h, fun _ h => h, fun _ h => h.elim, trivial, ih⟩
end
section
variable {P : Program} {r : Option Nat} {n : Nat} {ds : List Deferred} {S0 : Nat → Prop} {w0 : World} {G L0 : List Asn} {f0 : Env} {Q : Exit → Act → World → Prop} {ops : Array Oper} {m : Nat} {wrl : List (Nat × Nat)} {prl R : List Nat} {J I : Nat} {A0 : Asn}
def DX (P : Program) (r : Option Nat) (n : Nat) (ds : List Deferred) (S0 : Nat → Prop) (w0 : World) (G : List Asn) (Q : Exit → Act → World → Prop) (ops : Array Oper) (m : Nat) (wrl : List (Nat × Nat)) (prl R : List Nat) (J I : Nat) (A0 : Asn) (L0 : List Asn) (f0 : Env) (j : Nat) (F : Nat → (Nat → Gh) → Value) (C : Nat → (Nat → Gh) → Asn) : Prop :=
  DrawOk ops m (wrOf wrl) (prOf prl) → DRx P r n ds S0 w0 G Q ops m (wrOf wrl) (prOf prl) R J I A0 L0 f0 j (gspec F C j)
def iOk (m J I : Nat) (prl : List Nat) : Bool := Nat.blt J m && (Nat.ble m I || prOf prl J I)
theorem T.drawo (hmix : P.follows .mixedOrders = true) {id : Nat} (m : Nat) (wrl : List (Nat × Nat)) (prl R : List Nat) (J : Nat) (hok : (drawOk ops.toList m wrl prl && iOk m J m prl) = true)
    (h : DX P r n ds S0 w0 G Q ops m wrl prl R J m A0 L0 f0 0 (fun _ _ => undef) (fun _ _ => emp)) : T P r n ds S0 w0 G Q (.region id ops true) (A0 :: L0) f0 := by
  rw [Bool.and_eq_true] at hok
  have hi := hok.2
  simp only [iOk, Bool.and_eq_true] at hi
  exact T.drawX0 (γ := Gh) hmix wrl prl R hok.1 (Nat.le_of_ble_eq_true hi.1) (fun h => absurd h (Nat.lt_irrefl _)) (h (DrawOk.of hok.1))
theorem T.drawn (hmix : P.follows .mixedOrders = true) {id : Nat} (m : Nat) (wrl : List (Nat × Nat)) (prl R : List Nat) (J I : Nat) (hok : (drawOk ops.toList m wrl prl && iOk m J I prl) = true) (hIm : Nat.blt I m = true)
    (h : DX P r n ds S0 w0 G Q ops m wrl prl R J I emp L0 f0 0 (fun _ _ => undef) (fun _ _ => emp)) : T P r n ds S0 w0 G Q (.region id ops true) L0 f0 := by
  rw [Bool.and_eq_true] at hok
  have hi := hok.2
  simp only [iOk, Bool.and_eq_true, Bool.or_eq_true] at hi
  have h1 := T.drawX0 (γ := Gh) (A0 := emp) (id := id) hmix wrl prl R hok.1 (Nat.le_of_ble_eq_true hi.1) (fun hh => hi.2.elim (fun h2 => absurd (Nat.le_of_ble_eq_true h2) (Nat.not_le.2 hh)) (fun h2 => h2)) (h (DrawOk.of hok.1))
  exact fun w hw => h1 w (hw.conv fun S w hs => hs.add trivial)
theorem DX.put {j : Nat} {F : Nat → (Nat → Gh) → Value} {C : Nat → (Nat → Gh) → Asn} {o : Oper} (hj : ops[j]? = some o) (hR : (R.contains j || Nat.beq j J) = false) (v : Value)
    (ho : ∀ (ρ : Nat → Gh) (g : Env) (M : List Asn) (Q' : Exit → Act → World → Prop), TO P r n ds S0 w0 G ops Q' [] (M ++ L0) (put (mixG wrl prl F f0 j ρ g) o.dst v) → TO P r n ds S0 w0 G ops Q' [o] (M ++ L0) (mixG wrl prl F f0 j ρ g))
    (h : DX P r n ds S0 w0 G Q ops m wrl prl R J I A0 L0 f0 (j + 1) (updF F j (fun _ => v)) (updF C j (fun _ => emp))) : DX P r n ds S0 w0 G Q ops m wrl prl R J I A0 L0 f0 j F C := fun hd => by
  rw [Bool.or_eq_false_iff] at hR
  refine DRx.step ⟨fun _ => v, fun _ => emp⟩ (by simp [gspec]) ⟨fun i hi _ _ ρ x => ⟨rfl, rfl⟩, o, hj, .inl ⟨fun e => by have := hR.2; rw [e] at this; simp at this, ?_, by simpa using hR.1, fun _ => rfl⟩⟩ ?_
  · intro ρ g X0 X Q' h'
    rw [mixG_eq hd hj] at h' ⊢
    exact ho ρ g _ Q' h'
  · rw [← gspec_succ]
    exact h hd
theorem DX.new {j : Nat} {F : Nat → (Nat → Gh) → Value} {C : Nat → (Nat → Gh) → Asn} {o : Oper} (hj : ops[j]? = some o) (hR : (R.contains j && !(Nat.beq j J)) = true) (V : Gh → Value) (c : Gh → Asn)
    (ho : ∀ (ρ : Nat → Gh) (g : Env) (M : List Asn) (Q' : Exit → Act → World → Prop), (∀ x : Gh, TO P r n ds S0 w0 G ops Q' [] (c x :: (M ++ L0)) (TL.put (mixG wrl prl F f0 j ρ g) o.dst (V x))) → TO P r n ds S0 w0 G ops Q' [o] (M ++ L0) (mixG wrl prl F f0 j ρ g))
    (h : DX P r n ds S0 w0 G Q ops m wrl prl R J I A0 L0 f0 (j + 1) (updF F j (fun ρ => V (ρ j))) (updF C j (fun ρ => c (ρ j)))) : DX P r n ds S0 w0 G Q ops m wrl prl R J I A0 L0 f0 j F C := fun hd => by
  rw [Bool.and_eq_true] at hR
  have hg : ∀ (ρ : Nat → Gh) (x : Gh), gupd ρ j x j = x := fun ρ x => by simp [gupd]
  refine DRx.step ⟨fun ρ => V (ρ j), fun ρ => c (ρ j)⟩ (by simp [gspec]) ⟨fun i hi hne _ ρ x => ?_, o, hj, .inr (.inl ⟨fun e => by have := hR.2; rw [e] at this; simp at this, ?_, by simpa using hR.1⟩)⟩ ?_
  · have : gupd ρ i x j = ρ j := by simp only [gupd, beq_false (fun e => hne e.symm), _root_.cond_false]
    simp only [this, and_self]
  · intro ρ g X0 X Q' h'
    rw [mixG_eq hd hj] at h' ⊢
    refine ho ρ g _ Q' fun x => ?_
    have := h' x
    simp only [hg] at this
    exact this
  · rw [← gspec_succ]
    exact h hd
theorem DX.rd {j : Nat} {F : Nat → (Nat → Gh) → Value} {C : Nat → (Nat → Gh) → Asn} {o : Oper} {v : Value} (hj : ops.toList[j]? = some o) (hR : (R.contains j || Nat.beq j J) = false) (hg : o.guard = none)
    (ho : ∀ (ρ : Nat → Gh) (g : Env), Reads P G L0 o (ev n (mixG wrl prl F f0 j ρ g)) v)
    (h : DX P r n ds S0 w0 G Q ops m wrl prl R J I A0 L0 f0 (j + 1) (updF F j (fun _ => v)) (updF C j (fun _ => emp))) : DX P r n ds S0 w0 G Q ops m wrl prl R J I A0 L0 f0 j F C :=
  DX.put (by rw [← Array.getElem?_toList]; exact hj) hR v (fun ρ g M Q' h' => TO.read hg (ho ρ g).appR h') h
theorem DX.rdg {j : Nat} {F : Nat → (Nat → Gh) → Value} {C : Nat → (Nat → Gh) → Asn} {d : Option Tmp} {op : Op} {ty : TypeId} {pos : String} {aft : Array Edge} {i s : Nat} {b : Bool} {v : Value} (hj : ops.toList[j]? = some ⟨d, op, ty, pos, aft, some (i, b)⟩) (hR : (R.contains j || Nat.beq j J) = false)
    (hi : (ops.toList[i]?).bind (·.dst) = some s) (hv : ∀ ρ g, ev n (mixG wrl prl F f0 j ρ g) (.tmp s) = .bool b)
    (ho : ∀ (ρ : Nat → Gh) (g : Env), Reads P G L0 ⟨d, op, ty, pos, aft, none⟩ (ev n (mixG wrl prl F f0 j ρ g)) v)
    (h : DX P r n ds S0 w0 G Q ops m wrl prl R J I A0 L0 f0 (j + 1) (updF F j (fun _ => v)) (updF C j (fun _ => emp))) : DX P r n ds S0 w0 G Q ops m wrl prl R J I A0 L0 f0 j F C :=
  DX.put (by rw [← Array.getElem?_toList]; exact hj) hR v (fun ρ g M Q' h' => TO.guard_true hi (hv ρ g) (TO.read rfl (ho ρ g).appR h')) h
theorem DX.off {j : Nat} {F : Nat → (Nat → Gh) → Value} {C : Nat → (Nat → Gh) → Asn} {d : Option Tmp} {op : Op} {ty : TypeId} {pos : String} {aft : Array Edge} {i s : Nat} {b b' : Bool} (hj : ops.toList[j]? = some ⟨d, op, ty, pos, aft, some (i, b)⟩) (hR : (R.contains j || Nat.beq j J) = false)
    (hi : (ops.toList[i]?).bind (·.dst) = some s) (hv : ∀ ρ g, ev n (mixG wrl prl F f0 j ρ g) (.tmp s) = .bool b') (hb : b' ≠ b)
    (h : DX P r n ds S0 w0 G Q ops m wrl prl R J I A0 L0 f0 (j + 1) (updF F j (fun _ => undef)) (updF C j (fun _ => emp))) : DX P r n ds S0 w0 G Q ops m wrl prl R J I A0 L0 f0 j F C :=
  DX.put (by rw [← Array.getElem?_toList]; exact hj) hR undef (fun ρ g M Q' h' => TO.guard_false hi (hv ρ g) hb h') h
theorem DX.fn {j : Nat} {F : Nat → (Nat → Gh) → Value} {C : Nat → (Nat → Gh) → Asn} {d : Option Tmp} {ty : TypeId} {pos : String} {aft : Array Edge} {v : Value} {q : FuncId} {vs : List Value} {asx : Array Operand} {ats : Array TypeId} {G' : List Asn}
    (hj : ops.toList[j]? = some ⟨d, .call ⟨.value (.func q), asx, ats⟩, ty, pos, aft, none⟩) (hR : (R.contains j || Nat.beq j J) = false) (he : Enters P q) (hc : Cv P q vs.toArray G' v) (ha : ∀ ρ g, asx.toList.map (ev n (mixG wrl prl F f0 j ρ g)) = vs) (hG : ∀ X ∈ G', Has G L0 X)
    (h : DX P r n ds S0 w0 G Q ops m wrl prl R J I A0 L0 f0 (j + 1) (updF F j (fun _ => v)) (updF C j (fun _ => emp))) : DX P r n ds S0 w0 G Q ops m wrl prl R J I A0 L0 f0 j F C :=
  DX.put (by rw [← Array.getElem?_toList]; exact hj) hR v (fun ρ g M Q' h' => TO.fn he hc (ha ρ g) (fun X hX => (hG X hX).appR) h') h
theorem DX.fng {j : Nat} {F : Nat → (Nat → Gh) → Value} {C : Nat → (Nat → Gh) → Asn} {d : Option Tmp} {ty : TypeId} {pos : String} {aft : Array Edge} {i s : Nat} {b : Bool} {v : Value} {q : FuncId} {vs : List Value} {asx : Array Operand} {ats : Array TypeId} {G' : List Asn}
    (hj : ops.toList[j]? = some ⟨d, .call ⟨.value (.func q), asx, ats⟩, ty, pos, aft, some (i, b)⟩) (hR : (R.contains j || Nat.beq j J) = false) (hi : (ops.toList[i]?).bind (·.dst) = some s) (hv : ∀ ρ g, ev n (mixG wrl prl F f0 j ρ g) (.tmp s) = .bool b)
    (he : Enters P q) (hc : Cv P q vs.toArray G' v) (ha : ∀ ρ g, asx.toList.map (ev n (mixG wrl prl F f0 j ρ g)) = vs) (hG : ∀ X ∈ G', Has G L0 X)
    (h : DX P r n ds S0 w0 G Q ops m wrl prl R J I A0 L0 f0 (j + 1) (updF F j (fun _ => v)) (updF C j (fun _ => emp))) : DX P r n ds S0 w0 G Q ops m wrl prl R J I A0 L0 f0 j F C :=
  DX.put (by rw [← Array.getElem?_toList]; exact hj) hR v (fun ρ g M Q' h' => TO.guard_true hi (hv ρ g) (TO.fn he hc (ha ρ g) (fun X hX => (hG X hX).appR) h')) h
theorem DX.decide {j : Nat} {F : Nat → (Nat → Gh) → Value} {C : Nat → (Nat → Gh) → Asn} (p : Nat) {t : Bool} (hF : F p = fun _ => .bool t) (h1 : t = true → DX P r n ds S0 w0 G Q ops m wrl prl R J I A0 L0 f0 j (updF F p (fun _ => .bool true)) C) (h2 : t = false → DX P r n ds S0 w0 G Q ops m wrl prl R J I A0 L0 f0 j (updF F p (fun _ => .bool false)) C) :
    DX P r n ds S0 w0 G Q ops m wrl prl R J I A0 L0 f0 j F C := by
  cases t with
  | true => have := h1 rfl; rwa [updF_self hF] at this
  | false => have := h2 rfl; rwa [updF_self hF] at this
theorem DX.decide_ft {j : Nat} {F : Nat → (Nat → Gh) → Value} {C : Nat → (Nat → Gh) → Asn} (p : Nat) {t : Bool} (hF : F p = fun _ => .bool t) (h2 : t = false → DX P r n ds S0 w0 G Q ops m wrl prl R J I A0 L0 f0 j (updF F p (fun _ => .bool false)) C) (h1 : t = true → DX P r n ds S0 w0 G Q ops m wrl prl R J I A0 L0 f0 j (updF F p (fun _ => .bool true)) C) :
    DX P r n ds S0 w0 G Q ops m wrl prl R J I A0 L0 f0 j F C := DX.decide p hF h1 h2
theorem DX.buildS {j : Nat} {F : Nat → (Nat → Gh) → Value} {C : Nat → (Nat → Gh) → Asn} {d : Option Tmp} {ty : TypeId} {pos : String} {aft : Array Edge} {t e sz k : Nat} {ps : Array (Nat × Operand)} {z : Value} {cs : List Value} (hj : ops.toList[j]? = some ⟨d, .buildSlice t k ps, ty, pos, aft, none⟩) (hR : (R.contains j && !(Nat.beq j J)) = true)
    (ht : P.underlying t = some (.slice e)) (hs : ∀ w, (sizeOf e).run P w = .ok sz w) (hz : TyZero P e z) (hsmall : k * sz ≤ 16777216)
    (hfill : ∀ ρ g, fillM (fun i => some (i * sz, sz)) ((List.range (k * sz)).map (z.cells[· % z.cells.size]!)) 0 (ps.toList.map fun p => (p.1, ev n (mixG wrl prl F f0 j ρ g) p.2)) = some cs)
    (h : DX P r n ds S0 w0 G Q ops m wrl prl R J I A0 L0 f0 (j + 1) (updF F j (fun ρ => .slice (some ⟨(ρ j).2, 0, none⟩) k k)) (updF C j (fun ρ => own (ρ j).2 cs.toArray e))) : DX P r n ds S0 w0 G Q ops m wrl prl R J I A0 L0 f0 j F C :=
  DX.new (by rw [← Array.getElem?_toList]; exact hj) hR (fun x => .slice (some ⟨x.2, 0, none⟩) k k) (fun x => own x.2 cs.toArray e) (fun ρ g M Q' h' => TO.buildS ht hs hz hsmall (hfill ρ g) fun b => h' (none, b)) h
theorem DX.alloc {j : Nat} {F : Nat → (Nat → Gh) → Value} {C : Nat → (Nat → Gh) → Asn} {d : Option Tmp} {ty : TypeId} {pos : String} {aft : Array Edge} {t : TypeId} {v : Value} (hj : ops.toList[j]? = some ⟨d, .alloc t, ty, pos, aft, none⟩) (hR : (R.contains j && !(Nat.beq j J)) = true) (hz : TyZero P t v)
    (h : DX P r n ds S0 w0 G Q ops m wrl prl R J I A0 L0 f0 (j + 1) (updF F j (fun ρ => .pointer (some ⟨(ρ j).2, 0, none⟩))) (updF C j (fun ρ => own (ρ j).2 v.cells t))) : DX P r n ds S0 w0 G Q ops m wrl prl R J I A0 L0 f0 j F C :=
  DX.new (by rw [← Array.getElem?_toList]; exact hj) hR (fun x => .pointer (some ⟨x.2, 0, none⟩)) (fun x => own x.2 v.cells t) (fun ρ g M Q' h' => TO.alloc hz fun b => h' (none, b)) h
/-- The store to the piece at hand. -/
theorem DX.sto {F : Nat → (Nat → Gh) → Value} {C : Nat → (Nat → Gh) → Asn} {b o k : Nat} {x y : Operand} {t t' : TypeId} {cells cells' : Array Value} {v : Value} {ty : TypeId} {pos : String} {aft : Array Edge} (hj : ops.toList[J]? = some ⟨none, .store t x y, ty, pos, aft, none⟩) (hR : R.contains J = false)
    (hs : ∀ w, (sizeOf t).run P w = .ok k w) (hx : ∀ ρ g, ev n (mixG wrl prl F f0 J ρ g) x = .pointer (some ⟨b, o, none⟩)) (hy : ∀ ρ g, ev n (mixG wrl prl F f0 J ρ g) y = v) (hk : v.cells.size = k) (hc : over cells o v.cells.toList = cells') (hfit : o + k ≤ cells.size) (h1 : v.cells.toList.all (·.oneCell') = true)
    (h : DX P r n ds S0 w0 G Q ops m wrl prl R J m (own b cells t') L0 f0 (J + 1) (updF F J (fun _ => undef)) (updF C J (fun _ => own b cells' t'))) : DX P r n ds S0 w0 G Q ops m wrl prl R J m (own b cells t') L0 f0 J F C := fun hd => by
  have hj' := hj
  rw [Array.getElem?_toList] at hj'
  refine DRx.step ⟨fun _ => undef, fun _ => own b cells' t'⟩ (by simp [gspec]) ⟨fun i hi _ _ ρ x => ⟨rfl, rfl⟩, _, hj', .inr (.inr ⟨rfl, ?_, by simpa using hR⟩)⟩ ?_
  · intro ρ g X Q' _ h'
    rw [mixG_eq hd hj'] at h' ⊢
    refine TO.store0 hs (hx ρ g) (hy ρ g) hk hc hfit h1 ?_
    have e : (fun p => bif Nat.beq p m then emp else X p) = (fun p => bif Nat.beq p m then emp else X p) := rfl
    have e2 : mixLx (prOf prl) (gspec F C J) L0 m J m J ρ (own b cells' t') (fun p => bif Nat.beq p m then emp else X p) = mixLx (prOf prl) (gspec F C J) L0 m J m J ρ (own b cells' t') X := by
      unfold mixLx
      congr 2
      apply List.map_congr_left
      intro p hp
      have hpm : Nat.beq p m = false := beq_false (by have := List.mem_range.1 hp; omega)
      simp only [hpm, _root_.cond_false]
    rw [e2] at h'
    exact h'
  · rw [← gspec_succ]
    exact h hd
/-- The store to a piece that the region has made. -/
theorem DX.stn {F : Nat → (Nat → Gh) → Value} {C : Nat → (Nat → Gh) → Asn} {k : Nat} {x y : Operand} {t t' : TypeId} {cells cells' : Array Value} {v : Value} {ty : TypeId} {pos : String} {aft : Array Edge} (hj : ops.toList[J]? = some ⟨none, .store t x y, ty, pos, aft, none⟩) (hR : R.contains J = false) (hIJ : Nat.blt I J = true)
    (hIm : Nat.blt I m = true) (hpr : prOf prl J I = true) (hs : ∀ w, (sizeOf t).run P w = .ok k w) (hC : C I = fun ρ => own (ρ I).2 cells t') (hx : ∀ ρ g, ev n (mixG wrl prl F f0 J ρ g) x = .pointer (some ⟨(ρ I).2, 0, none⟩)) (hy : ∀ ρ g, ev n (mixG wrl prl F f0 J ρ g) y = v) (hk : v.cells.size = k) (hc : over cells 0 v.cells.toList = cells') (hfit : k ≤ cells.size) (h1 : v.cells.toList.all (·.oneCell') = true)
    (h : DX P r n ds S0 w0 G Q ops m wrl prl R J I emp L0 f0 (J + 1) (updF F J (fun _ => undef)) (updF C J (fun ρ => own (ρ I).2 cells' t'))) : DX P r n ds S0 w0 G Q ops m wrl prl R J I emp L0 f0 J F C := fun hd => by
  have hj' := hj
  rw [Array.getElem?_toList] at hj'
  have hI1 : I < J := Nat.le_of_ble_eq_true hIJ
  have hI2 : I < m := Nat.le_of_ble_eq_true hIm
  refine DRx.step ⟨fun _ => undef, fun ρ => own (ρ I).2 cells' t'⟩ (by simp [gspec]) ⟨fun i hi hne hpi ρ x => ?_, _, hj', .inr (.inr ⟨rfl, ?_, by simpa using hR⟩)⟩ ?_
  · have hiI : I ≠ i := fun e => by rw [← e, hpr] at hpi; cases hpi
    have : gupd ρ i x I = ρ I := by simp only [gupd, beq_false hiI, _root_.cond_false]
    simp only [this, and_self]
  · intro ρ g X Q' hXI h'
    rw [mixG_eq hd hj'] at h' ⊢
    have hXI' : X I = own (ρ I).2 cells t' := by rw [hXI hI2, gspec_get F C hI1]; show C I ρ = _; rw [hC]
    have hget : (mixLx (prOf prl) (gspec F C J) L0 m J I J ρ emp X)[I + 1]? = some (own (ρ I).2 cells t') := by
      unfold mixLx
      rw [List.cons_append, List.getElem?_cons_succ, List.getElem?_append_left (by simpa using hI2)]
      simp only [List.getElem?_map, List.getElem?_range hI2, Option.map_some]
      rw [show Nat.beq I I = true from by simp, Bool.not_true, Bool.and_false, _root_.cond_false, hXI']
    refine TO.store (I + 1) hs (hx ρ g) (hy ρ g) hk hget hc (by omega) (fun u hu => List.all_eq_true.1 h1 u hu) rfl ?_
    refine h'.conv fun S w hs' => ?_
    unfold mixLx at hs' ⊢
    rw [List.cons_append, List.set_cons_succ] at hs'
    have hlt : I < ((List.range m).map (fun p => bif (prOf prl J p && !(Nat.beq p J) && !(Nat.beq p I)) then ((gspec F C J).getD p dspec).c ρ else X p)).length := by simpa using hI2
    have h2 := seps_take I (A := own (ρ I).2 cells' t') (by rw [List.getElem?_set]; simp only [if_true, List.length_append]; rw [if_pos (by omega)]) hs'
    rw [List.set_set, List.set_append_left _ _ hlt] at h2
    rw [List.cons_append]
    have e4 : ((List.range m).map (fun p => bif (prOf prl J p && !(Nat.beq p J) && !(Nat.beq p I)) then ((gspec F C J).getD p dspec).c ρ else X p)).set I emp = (List.range m).map (fun p => bif (prOf prl J p && !(Nat.beq p J) && !(Nat.beq p I)) then ((gspec F C J).getD p dspec).c ρ else bif Nat.beq p I then emp else X p) := by
      apply List.ext_getElem?
      intro q
      by_cases hq : q < m
      · by_cases e : q = I
        · subst e
          rw [List.getElem?_set]
          simp only [if_true, List.length_map, List.length_range, hq, List.getElem?_map, List.getElem?_range hq, Option.map_some]
          rw [show Nat.beq q q = true from by simp, Bool.not_true, Bool.and_false, _root_.cond_false, _root_.cond_true]
        · rw [List.getElem?_set_ne (fun h => e h.symm)]
          simp only [List.getElem?_map, List.getElem?_range hq, Option.map_some, beq_false e, _root_.cond_false]
      · simp [hq]
    rw [e4] at h2
    exact h2
  · rw [← gspec_succ]
    exact h hd
theorem DX.done {F : Nat → (Nat → Gh) → Value} {C : Nat → (Nat → Gh) → Asn} {l : List Oper} (R' : List Nat) (hl : ops.toList.drop m = l) (hJ : Nat.blt J m = true) (hn : R'.Nodup) (hR : R'.all (fun j => Nat.blt j m && (!(Nat.beq j J) && !(Nat.beq j I))) = true) (h : ∀ ρ : Nat → Gh, TO P r n ds S0 w0 G ops Q l (C J ρ :: (R'.map (fun j => C j ρ) ++ L0)) (allG wrl F f0 ρ)) : DX P r n ds S0 w0 G Q ops m wrl prl R J I A0 L0 f0 m F C := fun hd => by
  refine DRx.done (by simp [gspec]) fun ρ => ?_
  have e : fullE (wrOf wrl) (gspec F C m) f0 ρ = allG wrl F f0 ρ := by
    funext t
    simp only [fullE, allG, wrL_eq]
    cases hw : wrOf wrl t with
    | none => rfl
    | some p => simp only; rw [gspec_get F C (hd.wrm t p hw).1]
  rw [e, hl]
  refine (h ρ).conv fun S w hs => ?_
  unfold fullLx at hs
  rw [gspec_get F C (Nat.le_of_ble_eq_true hJ)] at hs
  refine seps_under (fun S w hs => ?_) hs
  obtain ⟨S1, S2, h1, h2, h3, h4, h5⟩ := hs.split
  refine Seps.app h1 h2 h3 ?_ h5
  have := h4.sel hn
  have e2 : sel R' ((List.range m).map fun p => bif (!(Nat.beq p J) && !(Nat.beq p I)) then ((gspec F C m).getD p dspec).c ρ else emp) = R'.map fun j => C j ρ := by
    unfold sel
    apply List.map_congr_left
    intro j hj
    have h6 := List.all_eq_true.1 hR j hj
    rw [Bool.and_eq_true] at h6
    have hlt : j < m := Nat.le_of_ble_eq_true h6.1
    simp only [List.getD_eq_getElem?_getD, List.getElem?_map, List.getElem?_range, hlt, if_true, Option.map_some, Option.getD_some, h6.2, _root_.cond_true]
    have := gspec_get F C hlt
    simp only [List.getD_eq_getElem?_getD] at this
    rw [this]
  rw [e2] at this
  exact this
end
end Go.TL
end
