/- What the proofs of this seat's statements lean on, part 5: a small program logic, plain facts, walks of functions. No statement of the seat is proved here. -/
import Derived.Test.YtlcbpicpociipaaDoorB4
import Derived.Below
import Derived.Carry
import Derived.ChangeCalls
import Derived.ChangeOld
import Derived.ChangeSame
import Derived.Handed
import Derived.LaidMore
import Derived.Lay
import Derived.MakeChecks
import Derived.OpenShut
import Derived.RowKit
import Derived.Stop.Joined
import Derived.Test.YtlcbpicpociipaaDoorProg
section
/- Regions that draw their order, in which one store (to a piece at hand, or to one that the region makes) need not wait for all that is named ahead of it. No program is named here. -/
set_option linter.unusedVariables false
set_option linter.unusedSimpArgs false
namespace Go.TL
theorem seps_under {L L' : List Asn} {A : Asn} (h : ∀ S w, Seps L S w → Seps L' S w) {S : Nat → Prop} {w : World} (hs : Seps (A :: L) S w) : Seps (A :: L') S w := by
  obtain ⟨S1, S2, h1, h2, hd, ha, hr⟩ := hs
  exact ⟨S1, S2, h1, h2, hd, ha, h _ _ hr⟩
theorem seps_take {L : List Asn} {A : Asn} {S : Nat → Prop} {w : World} (j : Nat) (hj : L[j]? = some A) (h : Seps (emp :: L) S w) : Seps (A :: L.set j emp) S w := by
  obtain ⟨F, f1, f2, f3⟩ := h.fam
  have hlt : j < L.length := (List.getElem?_eq_some_iff.1 hj).1
  refine Seps.of_fam (fun i => if i = 0 then F (j + 1) else if i = j + 1 then F 0 else F i) ?_ ?_ ?_
  · intro i b hb
    by_cases e : i = 0
    · simp only [e, if_true] at hb; exact f1 _ b hb
    · by_cases e' : i = j + 1
      · simp only [e', if_true] at hb; exact f1 _ b (by simpa using hb)
      · simp only [e, e', if_false] at hb; exact f1 _ b hb
  · intro i k b hne hi hk
    have inj : ∀ x y : Nat, x ≠ y → (if x = 0 then j + 1 else if x = j + 1 then 0 else x) ≠ (if y = 0 then j + 1 else if y = j + 1 then 0 else y) := by
      intro x y hxy
      split <;> split <;> (try split) <;> (try split) <;> omega
    have e1 : ∀ x, (if x = 0 then F (j + 1) else if x = j + 1 then F 0 else F x) = F (if x = 0 then j + 1 else if x = j + 1 then 0 else x) := by
      intro x
      split
      · rfl
      · split <;> rfl
    rw [e1] at hi hk
    exact f2 _ _ b (inj i k hne) hi hk
  · intro i B hB
    by_cases e : i = 0
    · subst e
      simp only [List.getElem?_cons_zero, Option.some.injEq] at hB
      subst hB
      simp only [if_true]
      exact f3 (j + 1) A (by simpa using hj)
    · obtain ⟨i, rfl⟩ : ∃ q, i = q + 1 := ⟨i - 1, by omega⟩
      rw [List.getElem?_cons_succ] at hB
      by_cases e' : i = j
      · subst e'
        rw [List.getElem?_set] at hB
        simp only [hlt, if_true, Option.some.injEq] at hB
        subst hB
        simp only [Nat.add_one_ne_zero, if_true, if_false]
        exact f3 0 emp rfl
      · rw [List.getElem?_set_ne (fun h => e' h.symm)] at hB
        simp only [Nat.add_one_ne_zero, Nat.add_right_cancel_iff, e', if_false]
        exact f3 (i + 1) B (by simpa using hB)
section
variable {γ : Type}
def mixLx (pr : Nat → Nat → Bool) (sp : List (Spec γ)) (L0 : List Asn) (m J I q : Nat) (ρ : Nat → γ) (X0 : Asn) (X : Nat → Asn) : List Asn :=
  (X0 :: (List.range m).map (fun p => bif (pr q p && !(Nat.beq p J) && !(Nat.beq p I)) then (sp.getD p dspec).c ρ else X p)) ++ L0
def lLx (sp : List (Spec γ)) (L0 : List Asn) (m J I : Nat) (A0 : Asn) (listed : Array Bool) (ρ : Nat → γ) : List Asn :=
  ((bif isL listed J then (sp.getD J dspec).c ρ else A0) :: (List.range m).map (fun p => bif (isL listed p && !(Nat.beq p J) && !(isL listed J && Nat.beq p I)) then (sp.getD p dspec).c ρ else emp)) ++ L0
def fullLx (sp : List (Spec γ)) (L0 : List Asn) (m J I : Nat) (ρ : Nat → γ) : List Asn :=
  ((sp.getD J dspec).c ρ :: (List.range m).map (fun p => bif (!(Nat.beq p J) && !(Nat.beq p I)) then (sp.getD p dspec).c ρ else emp)) ++ L0
theorem lLx_set {sp : List (Spec γ)} {L0 : List Asn} {m J I : Nat} {A0 : Asn} {listed : Array Bool} {ρ ρ' : Nat → γ} {j : Nat} (hjs : j < listed.size) (hnl : isL listed j = false) (hne : j ≠ J) (hI : isL listed J = true → j ≠ I)
    (hsame : ∀ p, p ≠ j → isL listed p = true → (sp.getD p dspec).c ρ' = (sp.getD p dspec).c ρ) (hmi : j < m) :
    (lLx sp L0 m J I A0 listed ρ).set (j + 1) ((sp.getD j dspec).c ρ') = lLx sp L0 m J I A0 (listed.setIfInBounds j true) ρ' := by
  have hlj : isL (listed.setIfInBounds j true) j = true := by simp [isL, Array.getD_eq_getD_getElem?, hjs]
  have hl : ∀ p, p ≠ j → isL (listed.setIfInBounds j true) p = isL listed p := fun p e => by simp [isL, Array.getD_eq_getD_getElem?, Array.getElem?_setIfInBounds_ne (fun h => e h.symm)]
  unfold lLx
  rw [List.cons_append, List.cons_append, List.set_cons_succ, List.set_append_left _ _ (by simpa using hmi), hl J (fun e => hne e.symm)]
  congr 1
  · cases hb : isL listed J with
    | false => rfl
    | true => simp only [_root_.cond_true]; exact (hsame J (fun e => hne e.symm) hb).symm
  · congr 1
    apply List.ext_getElem?
    intro p
    by_cases hp : p < m
    · by_cases e : p = j
      · subst e
        have h1 : Nat.beq p J = false := beq_false hne
        have h2 : (isL listed J && Nat.beq p I) = false := by
          cases hb : isL listed J with
          | false => rfl
          | true => rw [Bool.true_and]; exact beq_false (hI hb)
        simp only [List.getElem?_set, List.length_map, List.length_range, hp, if_true, List.getElem?_map, List.getElem?_range, Option.map_some, hlj, h1, h2, Bool.not_false, Bool.and_true, _root_.cond_true]
      · rw [List.getElem?_set_ne (fun h => e h.symm)]
        simp only [List.getElem?_map, List.getElem?_range, hp, if_true, Option.map_some, Option.some.injEq, hl p e]
        cases hb : isL listed p with
        | false => simp only [Bool.false_and, _root_.cond_false]
        | true => rw [hsame p e hb]
    · simp [hp]
end
section
variable {P : Program} {r : Option Nat} {n : Nat} {ds : List Deferred} {S0 : Nat → Prop} {w0 : World} {G L0 : List Asn} {f0 : Env} {Q : Exit → Act → World → Prop} {ops : Array Oper} {γ : Type} {m : Nat} {wr : Nat → Option Nat} {pr : Nat → Nat → Bool} {R : List Nat} {J I : Nat} {A0 : Asn}
def ObPx (P : Program) (r : Option Nat) (n : Nat) (ds : List Deferred) (S0 : Nat → Prop) (w0 : World) (G : List Asn) (ops : Array Oper) (m : Nat) (wr : Nat → Option Nat) (pr : Nat → Nat → Bool) (J I : Nat) (L0 : List Asn) (f0 : Env) (sp : List (Spec γ)) (j : Nat) (o : Oper) (s : Spec γ) : Prop :=
  ∀ (ρ : Nat → γ) (g : Env) (X0 : Asn) (X : Nat → Asn) (Q' : Exit → Act → World → Prop), TO P r n ds S0 w0 G ops Q' [] (mixLx pr sp L0 m J I j ρ X0 X) (put (mixE wr pr sp f0 j ρ g) o.dst (s.v ρ)) → TO P r n ds S0 w0 G ops Q' [o] (mixLx pr sp L0 m J I j ρ X0 X) (mixE wr pr sp f0 j ρ g)
def ObRx (P : Program) (r : Option Nat) (n : Nat) (ds : List Deferred) (S0 : Nat → Prop) (w0 : World) (G : List Asn) (ops : Array Oper) (m : Nat) (wr : Nat → Option Nat) (pr : Nat → Nat → Bool) (J I : Nat) (L0 : List Asn) (f0 : Env) (sp : List (Spec γ)) (j : Nat) (o : Oper) (s : Spec γ) : Prop :=
  ∀ (ρ : Nat → γ) (g : Env) (X0 : Asn) (X : Nat → Asn) (Q' : Exit → Act → World → Prop), (∀ x, TO P r n ds S0 w0 G ops Q' [] (s.c (gupd ρ j x) :: mixLx pr sp L0 m J I j ρ X0 X) (put (mixE wr pr sp f0 j ρ g) o.dst (s.v (gupd ρ j x)))) → TO P r n ds S0 w0 G ops Q' [o] (mixLx pr sp L0 m J I j ρ X0 X) (mixE wr pr sp f0 j ρ g)
def ObTx (P : Program) (r : Option Nat) (n : Nat) (ds : List Deferred) (S0 : Nat → Prop) (w0 : World) (G : List Asn) (ops : Array Oper) (m : Nat) (wr : Nat → Option Nat) (pr : Nat → Nat → Bool) (J I : Nat) (A0 : Asn) (L0 : List Asn) (f0 : Env) (sp : List (Spec γ)) (j : Nat) (o : Oper) (s : Spec γ) : Prop :=
  ∀ (ρ : Nat → γ) (g : Env) (X : Nat → Asn) (Q' : Exit → Act → World → Prop), (I < m → X I = (sp.getD I dspec).c ρ) → TO P r n ds S0 w0 G ops Q' [] (mixLx pr sp L0 m J I j ρ (s.c ρ) (fun p => bif Nat.beq p I then emp else X p)) (put (mixE wr pr sp f0 j ρ g) o.dst (s.v ρ)) → TO P r n ds S0 w0 G ops Q' [o] (mixLx pr sp L0 m J I j ρ A0 X) (mixE wr pr sp f0 j ρ g)
structure Owedx (P : Program) (r : Option Nat) (n : Nat) (ds : List Deferred) (S0 : Nat → Prop) (w0 : World) (G : List Asn) (ops : Array Oper) (m : Nat) (wr : Nat → Option Nat) (pr : Nat → Nat → Bool) (R : List Nat) (J I : Nat) (A0 : Asn) (L0 : List Asn) (f0 : Env) (sp : List (Spec γ)) (j : Nat) (s : Spec γ) : Prop where
  ind : Ind pr R j s
  ob : ∃ o, ops[j]? = some o ∧ ((j ≠ J ∧ ObPx P r n ds S0 w0 G ops m wr pr J I L0 f0 sp j o s ∧ j ∉ R ∧ ∀ ρ, s.c ρ = emp) ∨ (j ≠ J ∧ ObRx P r n ds S0 w0 G ops m wr pr J I L0 f0 sp j o s ∧ j ∈ R) ∨ (j = J ∧ ObTx P r n ds S0 w0 G ops m wr pr J I A0 L0 f0 sp j o s ∧ j ∉ R))
def DRx (P : Program) (r : Option Nat) (n : Nat) (ds : List Deferred) (S0 : Nat → Prop) (w0 : World) (G : List Asn) (Q : Exit → Act → World → Prop) (ops : Array Oper) (m : Nat) (wr : Nat → Option Nat) (pr : Nat → Nat → Bool) (R : List Nat) (J I : Nat) (A0 : Asn) (L0 : List Asn) (f0 : Env) (j : Nat) (sp : List (Spec γ)) : Prop :=
  sp.length = j ∧ ∃ sp', sp.length + sp'.length = m ∧ (∀ k, k < sp'.length → Owedx P r n ds S0 w0 G ops m wr pr R J I A0 L0 f0 (sp ++ sp'.take k) (sp.length + k) (sp'.getD k dspec)) ∧
    ∀ ρ, TO P r n ds S0 w0 G ops Q (ops.toList.drop m) (fullLx (sp ++ sp') L0 m J I ρ) (fullE wr (sp ++ sp') f0 ρ)
theorem DRx.step {j : Nat} {sp : List (Spec γ)} (s : Spec γ) (hsp : sp.length = j) (ho : Owedx P r n ds S0 w0 G ops m wr pr R J I A0 L0 f0 sp j s) (h : DRx P r n ds S0 w0 G Q ops m wr pr R J I A0 L0 f0 (j + 1) (sp ++ [s])) : DRx P r n ds S0 w0 G Q ops m wr pr R J I A0 L0 f0 j sp := by
  obtain ⟨h1, sp', h2, h3, h4⟩ := h
  refine ⟨hsp, s :: sp', by simp at h2 ⊢; omega, fun k hk => ?_, fun ρ => by have := h4 ρ; simpa using this⟩
  cases k with
  | zero => simp only [List.take_zero, List.append_nil, Nat.add_zero, hsp]; exact ho
  | succ k =>
    have := h3 k (by simpa using hk)
    simp only [List.length_append, List.length_cons, List.length_nil] at this
    simp only [List.take_succ_cons]
    rw [show sp.length + (k + 1) = sp.length + (0 + 1) + k from by omega, show sp ++ s :: List.take k sp' = sp ++ [s] ++ List.take k sp' from by simp]
    simpa using this
theorem DRx.done {sp : List (Spec γ)} (hsp : sp.length = m) (h : ∀ ρ, TO P r n ds S0 w0 G ops Q (ops.toList.drop m) (fullLx sp L0 m J I ρ) (fullE wr sp f0 ρ)) : DRx P r n ds S0 w0 G Q ops m wr pr R J I A0 L0 f0 m sp :=
  ⟨hsp, [], by simpa using hsp, fun k hk => by simp at hk, fun ρ => by simpa using h ρ⟩
theorem T.drawX0 (hmix : P.follows .mixedOrders = true) {id : Nat} (wrl : List (Nat × Nat)) (prl R : List Nat) (hok : drawOk ops.toList m wrl prl = true) (hJm : J < m) (hI : I < m → prOf prl J I = true)
    (h : DRx P r n ds S0 w0 G Q ops m (wrOf wrl) (prOf prl) R J I A0 L0 f0 0 ([] : List (Spec γ))) [Inhabited γ] : T P r n ds S0 w0 G Q (.region id ops true) (A0 :: L0) f0 := fun w hw => by
  have hd := DrawOk.of hok
  generalize wrOf wrl = wr at *
  generalize prOf prl = pr at *
  obtain ⟨_, sp, hlen, hob, hfin⟩ := h
  simp only [List.length_nil, Nat.zero_add, List.nil_append] at hlen hob hfin
  refine wpIn_region_any hmix ?_
  -- the invariant
  let Cl : Array Bool → Prop := fun listed => ∀ q, isL listed q = true → ∀ p, pr q p = true → isL listed p = true
  let Hd : Array Bool → Act → World → Prop := fun listed a w => (∀ k, m ≤ k → isL listed k = false) ∧ ∃ ρ, a = act n (lE wr sp f0 listed ρ) ds ∧ St S0 w0 G (lLx sp L0 m J I A0 listed ρ) w
  let Tl : Array Bool → Act → World → Prop := fun listed a w => ∃ k, m ≤ k ∧ k ≤ ops.size ∧ (∀ j, j < k → isL listed j = true) ∧ (∀ j, k ≤ j → isL listed j = false) ∧ wpL P r ops Q (ops.toList.drop k) a w
  have hready : ∀ (listed : Array Bool) (j : Nat), Cl listed → j ∈ Region.ready .any ops listed → ∀ p, pr j p = true → isL listed p = true := by
    intro listed j hcl hj p hp
    obtain ⟨_, _, o, ho, he⟩ := mem_ready' hj
    obtain ⟨_, e, hmem, hb, hor⟩ := hd.clos j o ho p hp
    rcases hor with rfl | hpr
    · exact he e hmem hb
    · exact hcl e.on (he e hmem hb) p hpr
  have toTl : ∀ (listed : Array Bool) (a : Act) (w : World), (∀ j, j < m → isL listed j = true) → Hd listed a w → Tl listed a w := by
    rintro listed a w hall ⟨hnot, ρ, rfl, hst⟩
    refine ⟨m, Nat.le_refl _, hd.hm, hall, hnot, ?_⟩
    have e1 : lE wr sp f0 listed ρ = fullE wr sp f0 ρ := by
      funext t
      simp only [lE, fullE]
      cases hw : wr t with
      | none => rfl
      | some p => simp only [hall p (hd.wrm t p hw).1, _root_.cond_true]
    have e2 : lLx sp L0 m J I A0 listed ρ = fullLx sp L0 m J I ρ := by
      unfold lLx fullLx
      rw [hall J hJm]
      simp only [_root_.cond_true, Bool.true_and]
      congr 2
      apply List.map_congr_left
      intro p hp
      rw [hall p (by simpa using hp), Bool.true_and]
    rw [e1]
    rw [e2] at hst
    exact hfin ρ w hst
  have main : ∀ (fuel : Nat) (listed : Array Bool) (a : Act) (w : World), listed.size = ops.size → listed.toList.countP (fun b => !b) ≤ fuel → Cl listed → (Hd listed a w ∨ Tl listed a w) → wpAnyIn (Wd r) 0 P .any ops Q fuel listed a w := by
    have hend : ∀ (listed : Array Bool) (a : Act) (w : World), listed.size = ops.size → Cl listed → (Hd listed a w ∨ Tl listed a w) → Region.ready .any ops listed = [] → Q .normal a w := by
      intro listed a w hsz hcl hI hr
      have hall : ∀ j, j < ops.size → isL listed j = true := by
        intro j
        induction j using Nat.strongRecOn with
        | _ j ih =>
          intro hj
          cases hb : isL listed j with
          | true => rfl
          | false =>
            exfalso
            have : j ∈ Region.ready .any ops listed := by
              simp only [Region.ready, List.mem_filter, List.mem_range, Bool.and_eq_true, Bool.not_eq_true', hj, true_and]
              refine ⟨?_, ?_⟩
              · have hj' : j < listed.size := by omega
                simp only [isL, Array.getD_eq_getD_getElem?, hj', Array.getElem?_eq_getElem, Option.getD_some] at hb ⊢
                exact hb
              · simp only [hj, Array.getElem?_eq_getElem, Option.map_some, Option.getD_some, Array.all_eq_true']
                intro e he
                cases hbe : Region.binds .any e with
                | false => rfl
                | true =>
                  have hlt := hd.back j ops[j] (by simp [hj]) e he hbe
                  have := ih e.on hlt (by omega)
                  simpa [isL] using this
            rw [hr] at this
            cases this
      have hT : Tl listed a w := hI.elim (fun h => toTl listed a w (fun j hj => hall j (Nat.lt_of_lt_of_le hj hd.hm)) h) (fun h => h)
      obtain ⟨k, hk1, hk2, _, hk4, hk5⟩ := hT
      have hk : k = ops.size := by
        rcases Nat.lt_or_ge k ops.size with h | h
        · have h1 := hk4 k (Nat.le_refl _)
          rw [hall k h] at h1
          cases h1
        · omega
      subst hk
      rw [List.drop_eq_nil_of_le (by simp)] at hk5
      exact hk5
    intro fuel
    induction fuel with
    | zero =>
      intro listed a w hsz hc hcl hI
      have hr : Region.ready .any ops listed = [] := by
        cases hr : Region.ready .any ops listed with
        | nil => rfl
        | cons x xs =>
          exfalso
          obtain ⟨h1, h2, _⟩ := mem_ready' (listed := listed) (j := x) (ops := ops) (by rw [hr]; simp)
          have hx : x < listed.size := by omega
          simp only [Array.getD_eq_getD_getElem?, hx, Array.getElem?_eq_getElem, Option.getD_some] at h2
          have : 0 < listed.toList.countP (fun b => !b) := List.countP_pos_iff.2 ⟨listed[x], by simp, by simp [h2]⟩
          omega
      exact ⟨hr, hend listed a w hsz hcl hI hr⟩
    | succ fuel ih =>
      intro listed a w hsz hc hcl hI
      refine ⟨hend listed a w hsz hcl hI, fun i hi => ?_⟩
      obtain ⟨hi1, hi2, o, ho, hedge⟩ := mem_ready' hi
      have his : i < listed.size := by omega
      have hnl : isL listed i = false := by
        simp only [isL, Array.getD_eq_getD_getElem?, his, Array.getElem?_eq_getElem, Option.getD_some] at hi2 ⊢
        exact hi2
      have hcount : (listed.setIfInBounds i true).toList.countP (fun b => !b) ≤ fuel := by
        have h2' : listed.toList[i]'(by simpa using his) = false := by
          simp only [Array.getD_eq_getD_getElem?, his, Array.getElem?_eq_getElem, Option.getD_some] at hi2
          simpa using hi2
        have := List.countP_set (p := fun b : Bool => !b) (l := listed.toList) (i := i) (a := true) (h := by simpa using his)
        simp only [h2', Bool.not_false, Bool.not_true, if_true] at this
        rw [Array.toList_setIfInBounds, this]
        simp only [Bool.false_eq_true, if_false]
        have hpos : 0 < listed.toList.countP (fun b => !b) := List.countP_pos_iff.2 ⟨listed.toList[i]'(by simpa using his), List.getElem_mem _, by simp [h2']⟩
        omega
      have hsz' : (listed.setIfInBounds i true).size = ops.size := by simpa using hsz
      have hlj : isL (listed.setIfInBounds i true) i = true := by simp [isL, Array.getD_eq_getD_getElem?, his]
      have hl : ∀ p, p ≠ i → isL (listed.setIfInBounds i true) p = isL listed p := fun p e => by simp [isL, Array.getD_eq_getD_getElem?, Array.getElem?_setIfInBounds_ne (fun h => e h.symm)]
      have hcl' : Cl (listed.setIfInBounds i true) := by
        intro q hq p hp
        by_cases ep : p = i
        · rw [ep]; exact hlj
        · rw [hl p ep]
          by_cases eq : q = i
          · subst eq; exact hready listed q hcl hi p hp
          · rw [hl q eq] at hq; exact hcl q hq p hp
      have next : ∀ a' w', (Hd (listed.setIfInBounds i true) a' w' ∨ Tl (listed.setIfInBounds i true) a' w') → wpAnyIn (Wd r) 0 P .any ops Q fuel (listed.setIfInBounds i true) a' w' := fun a' w' h => ih _ a' w' hsz' hcount hcl' h
      -- the tail's step
      have tailStep : Tl listed a w → wpOpIn (Wd r) 0 P ops Q i (wpAnyIn (Wd r) 0 P .any ops Q fuel (listed.setIfInBounds i true)) a w := by
        rintro ⟨k, hk1, hk2, hk3, hk4, hk5⟩
        have hik : i = k := by
          rcases Nat.lt_trichotomy i k with h | h | h
          · rw [hk3 i h] at hnl; cases hnl
          · exact h
          · have := hready listed i hcl hi k (hd.tail i (by omega) hi1 k h)
            rw [hk4 k (Nat.le_refl _)] at this
            cases this
        subst hik
        have hdrop : ops.toList.drop i = o :: ops.toList.drop (i + 1) := by
          rw [List.drop_eq_getElem_cons (by simpa using hi1)]
          congr 1
          have := Array.getElem?_eq_some_iff.1 ho
          obtain ⟨_, h⟩ := this
          simpa using h
        rw [hdrop] at hk5
        have nextT : ∀ a' w', wpL P r ops Q (ops.toList.drop (i + 1)) a' w' → wpAnyIn (Wd r) 0 P .any ops Q fuel (listed.setIfInBounds i true) a' w' := fun a' w' h =>
          next a' w' (.inr ⟨i + 1, by omega, by omega, fun j hj => by
            by_cases e : j = i
            · rw [e]; exact hlj
            · rw [hl j e]; exact hk3 j (by omega), fun j hj => by rw [hl j (by omega)]; exact hk4 j (by omega), h⟩)
        simp only [wpL] at hk5
        simp only [wpOpIn, ho]
        split
        · rename_i hw'
          rw [if_pos hw'] at hk5
          exact Oper.wpIn_mono nextT hk5
        · rename_i hw'
          rw [if_neg hw'] at hk5
          exact ⟨fun _ _ => trivial, nextT _ _ hk5⟩
      rcases hI with hH | hT
      · by_cases him : i < m
        · -- a step of the head
          obtain ⟨hnot, ρ, rfl, hst⟩ := hH
          have hlt : i < sp.length := by omega
          obtain ⟨hind, o', ho', hob'⟩ := hob i hlt
          rw [ho] at ho'
          cases ho'
          have hpl : ∀ p, pr i p = true → isL listed p = true := hready listed i hcl hi
          have hpi : ∀ p, pr i p = true → p < i := fun p hp => (hd.clos i o ho p hp).1
          have hgd : ∀ p, p < i → (sp.take i).getD p dspec = sp.getD p dspec := fun p hp => by simp [List.getD_eq_getElem?_getD, List.getElem?_take, hp]
          have eE : mixE wr pr (sp.take i) f0 i ρ (lE wr sp f0 listed ρ) = lE wr sp f0 listed ρ := by
            funext t
            simp only [mixE, lE]
            cases hw : wr t with
            | none => rfl
            | some p =>
              cases hp : pr i p with
              | true => simp only [hp, _root_.cond_true, hpl p hp, hgd p (hpi p hp)]
              | false =>
                cases hq : (pr p i || Nat.beq p i) with
                | false => simp only [hp, hq, _root_.cond_false]
                | true =>
                  have : isL listed p = false := by
                    rcases Bool.or_eq_true_iff.1 hq with h | h
                    · cases hb : isL listed p with
                      | false => rfl
                      | true => rw [hcl p hb i h] at hnl; cases hnl
                    · rw [Nat.eq_of_beq_eq_true h]; exact hnl
                  simp only [hp, hq, _root_.cond_false, _root_.cond_true, this]
          have eL : mixLx pr (sp.take i) L0 m J I i ρ (bif isL listed J then (sp.getD J dspec).c ρ else A0) (fun p => bif (isL listed p && !(Nat.beq p J) && !(isL listed J && Nat.beq p I)) then (sp.getD p dspec).c ρ else emp) = lLx sp L0 m J I A0 listed ρ := by
            unfold mixLx lLx
            congr 2
            apply List.map_congr_left
            intro p _
            cases hp : pr i p with
            | true =>
              cases h1 : Nat.beq p J with
              | true => simp only [h1, Bool.not_true, Bool.and_false, Bool.false_and, _root_.cond_false]
              | false =>
                cases h2 : Nat.beq p I with
                | true => simp only [h1, h2, Bool.not_true, Bool.not_false, Bool.and_false, Bool.and_true, _root_.cond_false]
                | false => simp only [h1, h2, Bool.not_false, Bool.and_false, Bool.and_true, _root_.cond_true, hpl p hp, hgd p (hpi p hp)]
            | false => simp only [Bool.false_and, _root_.cond_false]
          have hIJ : isL listed J = true → I < m → isL listed I = true := fun h1 h2 => hcl J h1 I (hI h2)
          have hnot' : ∀ k, m ≤ k → isL (listed.setIfInBounds i true) k = false := fun k hk => by rw [hl k (by omega)]; exact hnot k hk
          -- what is done abides another ghost of i
          have hsame : ∀ p, p ≠ i → isL listed p = true → i ∈ R → ∀ x, (sp.getD p dspec).v (gupd ρ i x) = (sp.getD p dspec).v ρ ∧ (sp.getD p dspec).c (gupd ρ i x) = (sp.getD p dspec).c ρ := by
            intro p hp hpl' hiR x
            by_cases hps : p < sp.length
            · refine (hob p hps).ind i hiR (fun e => hp e.symm) ?_ ρ x
              cases hb : pr p i with
              | false => rfl
              | true => rw [hcl p hpl' i hb] at hnl; cases hnl
            · have : sp.getD p dspec = dspec := by simp [List.getD_eq_getElem?_getD, List.getElem?_eq_none (Nat.not_lt.1 hps)]
              rw [this]
              exact ⟨rfl, rfl⟩
          have conclude : TO P r n ds S0 w0 G ops (fun e a' w' => match e with | .normal => wpAnyIn (Wd r) 0 P .any ops Q fuel (listed.setIfInBounds i true) a' w' | e => Q e a' w') [o] (lLx sp L0 m J I A0 listed ρ) (lE wr sp f0 listed ρ) → wpOpIn (Wd r) 0 P ops Q i (wpAnyIn (Wd r) 0 P .any ops Q fuel (listed.setIfInBounds i true)) (act n (lE wr sp f0 listed ρ) ds) w := by
            intro hto
            have h1 := hto w hst
            simp only [wpL] at h1
            simp only [wpOpIn, ho]
            split
            · rename_i hw'
              rw [if_pos hw'] at h1
              refine ⟨fun _ _ => trivial, ?_⟩
              have h2 := h1.2
              generalize (Oper.semAt (Wd r).round (act n (lE wr sp f0 listed ρ) ds).eval o).run P w = z at h2 ⊢
              cases z with
              | ok y w' =>
                cases y <;> simp only [Oper.uponIn] at h2 ⊢ <;> first
                  | exact h2
                  | exact ⟨h2.1, CallsIn.mono h2.2 (fun e w'' he => by cases e <;> first | exact he | (obtain ⟨a0, w0', hq⟩ := he; exact ⟨a0, w0', hq⟩))⟩
                  | exact ⟨h2.1, RoundIn.mono h2.2 (fun e w'' he => by cases e <;> first | exact he | (obtain ⟨a0, w0', hq⟩ := he; exact ⟨a0, w0', hq⟩))⟩
              | halt y w' => cases y <;> simp only [Oper.uponIn] at h2 ⊢ <;> exact h2
            · rename_i hw'
              rw [if_neg hw'] at h1
              exact ⟨fun _ _ => trivial, h1⟩
          have QQ : ∀ e : Exit, True := fun _ => trivial
          rcases hob' with ⟨hne, hP, hnR, hemp⟩ | ⟨hne, hR, hiR⟩ | ⟨hiJ, hT, hnR⟩
          · refine conclude ?_
            have := hP ρ (lE wr sp f0 listed ρ) (bif isL listed J then (sp.getD J dspec).c ρ else A0) (fun p => bif (isL listed p && !(Nat.beq p J) && !(isL listed J && Nat.beq p I)) then (sp.getD p dspec).c ρ else emp) (fun e a' w' => match e with | .normal => wpAnyIn (Wd r) 0 P .any ops Q fuel (listed.setIfInBounds i true) a' w' | e => Q e a' w')
            rw [eE, eL] at this
            refine this fun w' hst' => ?_
            show wpAnyIn (Wd r) 0 P .any ops Q fuel (listed.setIfInBounds i true) _ w'
            refine next _ _ (.inl ⟨hnot', ρ, ?_, ?_⟩)
            · rw [lE_set hd ho him his (fun _ _ _ => rfl)]
            · rw [← lLx_set (hmi := him) (ρ := ρ) his hnl hne (fun h1 => by rintro rfl; rw [hIJ h1 him] at hnl; cases hnl) (fun _ _ _ => rfl), hemp]
              refine hst'.conv fun S w'' hs => ?_
              have hj : (lLx sp L0 m J I A0 listed ρ)[i + 1]? = some emp := by
                unfold lLx
                rw [List.cons_append, List.getElem?_cons_succ, List.getElem?_append_left (by simpa using him)]
                simp [him, hnl]
              have hset : (lLx sp L0 m J I A0 listed ρ).set (i + 1) emp = lLx sp L0 m J I A0 listed ρ := by
                apply List.ext_getElem?
                intro q
                by_cases e : q = i + 1
                · subst e; rw [hj, List.getElem?_set]; simp [(List.getElem?_eq_some_iff.1 hj).1]
                · rw [List.getElem?_set_ne (fun h => e h.symm)]
              rw [hset]
              exact hs
          · refine conclude ?_
            have := hR ρ (lE wr sp f0 listed ρ) (bif isL listed J then (sp.getD J dspec).c ρ else A0) (fun p => bif (isL listed p && !(Nat.beq p J) && !(isL listed J && Nat.beq p I)) then (sp.getD p dspec).c ρ else emp) (fun e a' w' => match e with | .normal => wpAnyIn (Wd r) 0 P .any ops Q fuel (listed.setIfInBounds i true) a' w' | e => Q e a' w')
            rw [eE, eL] at this
            refine this fun x w' hst' => ?_
            show wpAnyIn (Wd r) 0 P .any ops Q fuel (listed.setIfInBounds i true) _ w'
            refine next _ _ (.inl ⟨hnot', gupd ρ i x, ?_, ?_⟩)
            · rw [lE_set hd ho him his (fun p hp hpl' => (hsame p hp hpl' hiR x).1)]
            · rw [← lLx_set (hmi := him) (ρ := ρ) his hnl hne (fun h1 => by rintro rfl; rw [hIJ h1 him] at hnl; cases hnl) (fun p hp hpl' => (hsame p hp hpl' hiR x).2)]
              refine hst'.conv fun S w'' hs => ?_
              refine Seps.put_emp (i + 1) ?_ hs
              unfold lLx
              rw [List.cons_append, List.getElem?_cons_succ, List.getElem?_append_left (by simpa using him)]
              simp [him, hnl]
          · subst hiJ
            refine conclude ?_
            have := hT ρ (lE wr sp f0 listed ρ) (fun p => bif (isL listed p && !(Nat.beq p i) && !(isL listed i && Nat.beq p I)) then (sp.getD p dspec).c ρ else emp) (fun e a' w' => match e with | .normal => wpAnyIn (Wd r) 0 P .any ops Q fuel (listed.setIfInBounds i true) a' w' | e => Q e a' w') (fun hIm => by
              have h1 := hpl I (hI hIm)
              have h2 : Nat.beq I i = false := by
                cases h : Nat.beq I i with
                | false => rfl
                | true => rw [Nat.eq_of_beq_eq_true h, hnl] at h1; cases h1
              simp only [h1, h2, hnl, Bool.not_false, Bool.false_and, Bool.and_true, _root_.cond_true]
              rw [hgd I (hpi I (hI hIm))])
            have eL' := eL
            rw [hnl, _root_.cond_false] at eL'
            rw [hnl] at this
            rw [eE, eL'] at this
            refine this fun w' hst' => ?_
            show wpAnyIn (Wd r) 0 P .any ops Q fuel (listed.setIfInBounds i true) _ w'
            refine next _ _ (.inl ⟨hnot', ρ, ?_, ?_⟩)
            · rw [lE_set hd ho him his (fun _ _ _ => rfl)]
            · refine hst'.conv fun S w'' hs => ?_
              have e3 : mixLx pr (sp.take i) L0 m i I i ρ ((sp.getD i dspec).c ρ) (fun p => bif Nat.beq p I then emp else bif (isL listed p && !(Nat.beq p i) && !(false && Nat.beq p I)) then (sp.getD p dspec).c ρ else emp) = lLx sp L0 m i I A0 (listed.setIfInBounds i true) ρ := by
                unfold mixLx lLx
                rw [hlj, _root_.cond_true]
                congr 2
                apply List.map_congr_left
                intro p _
                have hlp : Nat.beq p i = false → isL (listed.setIfInBounds i true) p = isL listed p := fun h => hl p (fun e => by rw [e] at h; simp at h)
                cases h1 : Nat.beq p i with
                | true => cases h2 : Nat.beq p I <;> simp only [h1, h2, Bool.not_true, Bool.not_false, Bool.and_false, Bool.false_and, _root_.cond_false, _root_.cond_true]
                | false =>
                  rw [hlp h1]
                  cases h2 : Nat.beq p I with
                  | true => simp only [h1, h2, Bool.not_true, Bool.not_false, Bool.and_false, Bool.and_true, Bool.true_and, _root_.cond_false, _root_.cond_true]
                  | false =>
                    cases hp : pr i p with
                    | true => simp only [h1, h2, Bool.not_false, Bool.and_false, Bool.and_true, Bool.true_and, _root_.cond_true, hpl p hp, hgd p (hpi p hp)]
                    | false => simp only [h1, h2, Bool.not_false, Bool.and_false, Bool.and_true, Bool.false_and, Bool.true_and, _root_.cond_false]
              rw [← e3]
              exact hs
        · -- the tail begins
          refine tailStep (toTl listed a w (fun j hj => ?_) hH)
          exact hready listed i hcl hi j (hd.tail i (Nat.not_lt.1 him) hi1 j (by omega))
      · exact tailStep hT
  refine main ops.size _ _ _ (by simp) ?_ (fun q hq => by simp [isL, Array.getD_eq_getD_getElem?, Array.getElem?_replicate] at hq; split at hq <;> simp at hq) (.inl ⟨fun k _ => ?_, fun _ => default, ?_, ?_⟩)
  · exact Nat.le_trans List.countP_le_length (by simp)
  · simp only [isL, Array.getD_eq_getD_getElem?, Array.getElem?_replicate]; split <;> rfl
  · congr 1
    funext t
    simp only [lE]
    cases wr t with
    | none => rfl
    | some p =>
      have : isL (Array.replicate ops.size false) p = false := by simp only [isL, Array.getD_eq_getD_getElem?, Array.getElem?_replicate]; split <;> rfl
      simp only [this, _root_.cond_false]
  · refine (hw.drew).conv fun S w' hs => ?_
    have hall : ∀ p, isL (Array.replicate ops.size false) p = false := fun p => by simp only [isL, Array.getD_eq_getD_getElem?, Array.getElem?_replicate]; split <;> rfl
    have : lLx sp L0 m J I A0 (Array.replicate ops.size false) (fun _ => default) = A0 :: ((List.range m).map (fun _ => emp) ++ L0) := by
      unfold lLx
      rw [hall J, _root_.cond_false, List.cons_append]
      congr 2
      apply List.map_congr_left
      intro p _
      simp only [hall p, Bool.false_and, _root_.cond_false]
    rw [this]
    clear this
    refine seps_under (fun S w' hs => ?_) hs
    refine Seps.app (S1 := fun _ => False) (S2 := S) (fun _ h => h.elim) (fun _ h => h) (fun _ h => h.elim) ?_ hs
    generalize List.range m = l
    induction l with
    | nil => trivial
    | cons q l ih => exact ⟨fun _ => False, fun _ => False, fun _ h => h, fun _ h => h, fun _ h => h.elim, trivial, ih⟩
end
section
variable {P : Program} {r : Option Nat} {n : Nat} {ds : List Deferred} {S0 : Nat → Prop} {w0 : World} {G L0 : List Asn} {f0 : Env} {Q : Exit → Act → World → Prop} {ops : Array Oper} {m : Nat} {wrl : List (Nat × Nat)} {prl R : List Nat} {J I : Nat} {A0 : Asn}
def DX (P : Program) (r : Option Nat) (n : Nat) (ds : List Deferred) (S0 : Nat → Prop) (w0 : World) (G : List Asn) (Q : Exit → Act → World → Prop) (ops : Array Oper) (m : Nat) (wrl : List (Nat × Nat)) (prl R : List Nat) (J I : Nat) (A0 : Asn) (L0 : List Asn) (f0 : Env) (j : Nat) (F : Nat → (Nat → Gh) → Value) (C : Nat → (Nat → Gh) → Asn) : Prop :=
  DrawOk ops m (wrOf wrl) (prOf prl) → DRx P r n ds S0 w0 G Q ops m (wrOf wrl) (prOf prl) R J I A0 L0 f0 j (gspec F C j)
def iOk (m J I : Nat) (prl : List Nat) : Bool := Nat.blt J m && (Nat.ble m I || prOf prl J I)
theorem T.drawo (hmix : P.follows .mixedOrders = true) {id : Nat} (m : Nat) (wrl : List (Nat × Nat)) (prl R : List Nat) (J : Nat) (hok : (drawOk ops.toList m wrl prl && iOk m J m prl) = true)
    (h : DX P r n ds S0 w0 G Q ops m wrl prl R J m A0 L0 f0 0 (fun _ _ => undef) (fun _ _ => emp)) : T P r n ds S0 w0 G Q (.region id ops true) (A0 :: L0) f0 := by
  rw [Bool.and_eq_true] at hok
  have hi := hok.2
  simp only [iOk, Bool.and_eq_true] at hi
  exact T.drawX0 (γ := Gh) hmix wrl prl R hok.1 (Nat.le_of_ble_eq_true hi.1) (fun h => absurd h (Nat.lt_irrefl _)) (h (DrawOk.of hok.1))
theorem T.drawn (hmix : P.follows .mixedOrders = true) {id : Nat} (m : Nat) (wrl : List (Nat × Nat)) (prl R : List Nat) (J I : Nat) (hok : (drawOk ops.toList m wrl prl && iOk m J I prl) = true) (hIm : Nat.blt I m = true)
    (h : DX P r n ds S0 w0 G Q ops m wrl prl R J I emp L0 f0 0 (fun _ _ => undef) (fun _ _ => emp)) : T P r n ds S0 w0 G Q (.region id ops true) L0 f0 := by
  rw [Bool.and_eq_true] at hok
  have hi := hok.2
  simp only [iOk, Bool.and_eq_true, Bool.or_eq_true] at hi
  have h1 := T.drawX0 (γ := Gh) (A0 := emp) (id := id) hmix wrl prl R hok.1 (Nat.le_of_ble_eq_true hi.1) (fun hh => hi.2.elim (fun h2 => absurd (Nat.le_of_ble_eq_true h2) (Nat.not_le.2 hh)) (fun h2 => h2)) (h (DrawOk.of hok.1))
  exact fun w hw => h1 w (hw.conv fun S w hs => hs.add trivial)
theorem DX.put {j : Nat} {F : Nat → (Nat → Gh) → Value} {C : Nat → (Nat → Gh) → Asn} {o : Oper} (hj : ops[j]? = some o) (hR : (R.contains j || Nat.beq j J) = false) (v : Value)
    (ho : ∀ (ρ : Nat → Gh) (g : Env) (M : List Asn) (Q' : Exit → Act → World → Prop), TO P r n ds S0 w0 G ops Q' [] (M ++ L0) (put (mixG wrl prl F f0 j ρ g) o.dst v) → TO P r n ds S0 w0 G ops Q' [o] (M ++ L0) (mixG wrl prl F f0 j ρ g))
    (h : DX P r n ds S0 w0 G Q ops m wrl prl R J I A0 L0 f0 (j + 1) (updF F j (fun _ => v)) (updF C j (fun _ => emp))) : DX P r n ds S0 w0 G Q ops m wrl prl R J I A0 L0 f0 j F C := fun hd => by
  rw [Bool.or_eq_false_iff] at hR
  refine DRx.step ⟨fun _ => v, fun _ => emp⟩ (by simp [gspec]) ⟨fun i hi _ _ ρ x => ⟨rfl, rfl⟩, o, hj, .inl ⟨fun e => by have := hR.2; rw [e] at this; simp at this, ?_, by simpa using hR.1, fun _ => rfl⟩⟩ ?_
  · intro ρ g X0 X Q' h'
    rw [mixG_eq hd hj] at h' ⊢
    exact ho ρ g _ Q' h'
  · rw [← gspec_succ]
    exact h hd
theorem DX.new {j : Nat} {F : Nat → (Nat → Gh) → Value} {C : Nat → (Nat → Gh) → Asn} {o : Oper} (hj : ops[j]? = some o) (hR : (R.contains j && !(Nat.beq j J)) = true) (V : Gh → Value) (c : Gh → Asn)
    (ho : ∀ (ρ : Nat → Gh) (g : Env) (M : List Asn) (Q' : Exit → Act → World → Prop), (∀ x : Gh, TO P r n ds S0 w0 G ops Q' [] (c x :: (M ++ L0)) (TL.put (mixG wrl prl F f0 j ρ g) o.dst (V x))) → TO P r n ds S0 w0 G ops Q' [o] (M ++ L0) (mixG wrl prl F f0 j ρ g))
    (h : DX P r n ds S0 w0 G Q ops m wrl prl R J I A0 L0 f0 (j + 1) (updF F j (fun ρ => V (ρ j))) (updF C j (fun ρ => c (ρ j)))) : DX P r n ds S0 w0 G Q ops m wrl prl R J I A0 L0 f0 j F C := fun hd => by
  rw [Bool.and_eq_true] at hR
  have hg : ∀ (ρ : Nat → Gh) (x : Gh), gupd ρ j x j = x := fun ρ x => by simp [gupd]
  refine DRx.step ⟨fun ρ => V (ρ j), fun ρ => c (ρ j)⟩ (by simp [gspec]) ⟨fun i hi hne _ ρ x => ?_, o, hj, .inr (.inl ⟨fun e => by have := hR.2; rw [e] at this; simp at this, ?_, by simpa using hR.1⟩)⟩ ?_
  · have : gupd ρ i x j = ρ j := by simp only [gupd, beq_false (fun e => hne e.symm), _root_.cond_false]
    simp only [this, and_self]
  · intro ρ g X0 X Q' h'
    rw [mixG_eq hd hj] at h' ⊢
    refine ho ρ g _ Q' fun x => ?_
    have := h' x
    simp only [hg] at this
    exact this
  · rw [← gspec_succ]
    exact h hd
theorem DX.rd {j : Nat} {F : Nat → (Nat → Gh) → Value} {C : Nat → (Nat → Gh) → Asn} {o : Oper} {v : Value} (hj : ops.toList[j]? = some o) (hR : (R.contains j || Nat.beq j J) = false) (hg : o.guard = none)
    (ho : ∀ (ρ : Nat → Gh) (g : Env), Reads P G L0 o (ev n (mixG wrl prl F f0 j ρ g)) v)
    (h : DX P r n ds S0 w0 G Q ops m wrl prl R J I A0 L0 f0 (j + 1) (updF F j (fun _ => v)) (updF C j (fun _ => emp))) : DX P r n ds S0 w0 G Q ops m wrl prl R J I A0 L0 f0 j F C :=
  DX.put (by rw [← Array.getElem?_toList]; exact hj) hR v (fun ρ g M Q' h' => TO.read hg (ho ρ g).appR h') h
theorem DX.rdg {j : Nat} {F : Nat → (Nat → Gh) → Value} {C : Nat → (Nat → Gh) → Asn} {d : Option Tmp} {op : Op} {ty : TypeId} {pos : String} {aft : Array Edge} {i s : Nat} {b : Bool} {v : Value} (hj : ops.toList[j]? = some ⟨d, op, ty, pos, aft, some (i, b)⟩) (hR : (R.contains j || Nat.beq j J) = false)
    (hi : (ops.toList[i]?).bind (·.dst) = some s) (hv : ∀ ρ g, ev n (mixG wrl prl F f0 j ρ g) (.tmp s) = .bool b)
    (ho : ∀ (ρ : Nat → Gh) (g : Env), Reads P G L0 ⟨d, op, ty, pos, aft, none⟩ (ev n (mixG wrl prl F f0 j ρ g)) v)
    (h : DX P r n ds S0 w0 G Q ops m wrl prl R J I A0 L0 f0 (j + 1) (updF F j (fun _ => v)) (updF C j (fun _ => emp))) : DX P r n ds S0 w0 G Q ops m wrl prl R J I A0 L0 f0 j F C :=
  DX.put (by rw [← Array.getElem?_toList]; exact hj) hR v (fun ρ g M Q' h' => TO.guard_true hi (hv ρ g) (TO.read rfl (ho ρ g).appR h')) h
theorem DX.off {j : Nat} {F : Nat → (Nat → Gh) → Value} {C : Nat → (Nat → Gh) → Asn} {d : Option Tmp} {op : Op} {ty : TypeId} {pos : String} {aft : Array Edge} {i s : Nat} {b b' : Bool} (hj : ops.toList[j]? = some ⟨d, op, ty, pos, aft, some (i, b)⟩) (hR : (R.contains j || Nat.beq j J) = false)
    (hi : (ops.toList[i]?).bind (·.dst) = some s) (hv : ∀ ρ g, ev n (mixG wrl prl F f0 j ρ g) (.tmp s) = .bool b') (hb : b' ≠ b)
    (h : DX P r n ds S0 w0 G Q ops m wrl prl R J I A0 L0 f0 (j + 1) (updF F j (fun _ => undef)) (updF C j (fun _ => emp))) : DX P r n ds S0 w0 G Q ops m wrl prl R J I A0 L0 f0 j F C :=
  DX.put (by rw [← Array.getElem?_toList]; exact hj) hR undef (fun ρ g M Q' h' => TO.guard_false hi (hv ρ g) hb h') h
theorem DX.fn {j : Nat} {F : Nat → (Nat → Gh) → Value} {C : Nat → (Nat → Gh) → Asn} {d : Option Tmp} {ty : TypeId} {pos : String} {aft : Array Edge} {v : Value} {q : FuncId} {vs : List Value} {asx : Array Operand} {ats : Array TypeId} {G' : List Asn}
    (hj : ops.toList[j]? = some ⟨d, .call ⟨.value (.func q), asx, ats⟩, ty, pos, aft, none⟩) (hR : (R.contains j || Nat.beq j J) = false) (he : Enters P q) (hc : Cv P q vs.toArray G' v) (ha : ∀ ρ g, asx.toList.map (ev n (mixG wrl prl F f0 j ρ g)) = vs) (hG : ∀ X ∈ G', Has G L0 X)
    (h : DX P r n ds S0 w0 G Q ops m wrl prl R J I A0 L0 f0 (j + 1) (updF F j (fun _ => v)) (updF C j (fun _ => emp))) : DX P r n ds S0 w0 G Q ops m wrl prl R J I A0 L0 f0 j F C :=
  DX.put (by rw [← Array.getElem?_toList]; exact hj) hR v (fun ρ g M Q' h' => TO.fn he hc (ha ρ g) (fun X hX => (hG X hX).appR) h') h
theorem DX.fng {j : Nat} {F : Nat → (Nat → Gh) → Value} {C : Nat → (Nat → Gh) → Asn} {d : Option Tmp} {ty : TypeId} {pos : String} {aft : Array Edge} {i s : Nat} {b : Bool} {v : Value} {q : FuncId} {vs : List Value} {asx : Array Operand} {ats : Array TypeId} {G' : List Asn}
    (hj : ops.toList[j]? = some ⟨d, .call ⟨.value (.func q), asx, ats⟩, ty, pos, aft, some (i, b)⟩) (hR : (R.contains j || Nat.beq j J) = false) (hi : (ops.toList[i]?).bind (·.dst) = some s) (hv : ∀ ρ g, ev n (mixG wrl prl F f0 j ρ g) (.tmp s) = .bool b)
    (he : Enters P q) (hc : Cv P q vs.toArray G' v) (ha : ∀ ρ g, asx.toList.map (ev n (mixG wrl prl F f0 j ρ g)) = vs) (hG : ∀ X ∈ G', Has G L0 X)
    (h : DX P r n ds S0 w0 G Q ops m wrl prl R J I A0 L0 f0 (j + 1) (updF F j (fun _ => v)) (updF C j (fun _ => emp))) : DX P r n ds S0 w0 G Q ops m wrl prl R J I A0 L0 f0 j F C :=
  DX.put (by rw [← Array.getElem?_toList]; exact hj) hR v (fun ρ g M Q' h' => TO.guard_true hi (hv ρ g) (TO.fn he hc (ha ρ g) (fun X hX => (hG X hX).appR) h')) h
theorem DX.decide {j : Nat} {F : Nat → (Nat → Gh) → Value} {C : Nat → (Nat → Gh) → Asn} (p : Nat) {t : Bool} (hF : F p = fun _ => .bool t) (h1 : t = true → DX P r n ds S0 w0 G Q ops m wrl prl R J I A0 L0 f0 j (updF F p (fun _ => .bool true)) C) (h2 : t = false → DX P r n ds S0 w0 G Q ops m wrl prl R J I A0 L0 f0 j (updF F p (fun _ => .bool false)) C) :
    DX P r n ds S0 w0 G Q ops m wrl prl R J I A0 L0 f0 j F C := by
  cases t with
  | true => have := h1 rfl; rwa [updF_self hF] at this
  | false => have := h2 rfl; rwa [updF_self hF] at this
theorem DX.decide_ft {j : Nat} {F : Nat → (Nat → Gh) → Value} {C : Nat → (Nat → Gh) → Asn} (p : Nat) {t : Bool} (hF : F p = fun _ => .bool t) (h2 : t = false → DX P r n ds S0 w0 G Q ops m wrl prl R J I A0 L0 f0 j (updF F p (fun _ => .bool false)) C) (h1 : t = true → DX P r n ds S0 w0 G Q ops m wrl prl R J I A0 L0 f0 j (updF F p (fun _ => .bool true)) C) :
    DX P r n ds S0 w0 G Q ops m wrl prl R J I A0 L0 f0 j F C := DX.decide p hF h1 h2
theorem DX.buildS {j : Nat} {F : Nat → (Nat → Gh) → Value} {C : Nat → (Nat → Gh) → Asn} {d : Option Tmp} {ty : TypeId} {pos : String} {aft : Array Edge} {t e sz k : Nat} {ps : Array (Nat × Operand)} {z : Value} {cs : List Value} (hj : ops.toList[j]? = some ⟨d, .buildSlice t k ps, ty, pos, aft, none⟩) (hR : (R.contains j && !(Nat.beq j J)) = true)
    (ht : P.underlying t = some (.slice e)) (hs : ∀ w, (sizeOf e).run P w = .ok sz w) (hz : TyZero P e z) (hsmall : k * sz ≤ 16777216)
    (hfill : ∀ ρ g, fillM (fun i => some (i * sz, sz)) ((List.range (k * sz)).map (z.cells[· % z.cells.size]!)) 0 (ps.toList.map fun p => (p.1, ev n (mixG wrl prl F f0 j ρ g) p.2)) = some cs)
    (h : DX P r n ds S0 w0 G Q ops m wrl prl R J I A0 L0 f0 (j + 1) (updF F j (fun ρ => .slice (some ⟨(ρ j).2, 0, none⟩) k k)) (updF C j (fun ρ => own (ρ j).2 cs.toArray e))) : DX P r n ds S0 w0 G Q ops m wrl prl R J I A0 L0 f0 j F C :=
  DX.new (by rw [← Array.getElem?_toList]; exact hj) hR (fun x => .slice (some ⟨x.2, 0, none⟩) k k) (fun x => own x.2 cs.toArray e) (fun ρ g M Q' h' => TO.buildS ht hs hz hsmall (hfill ρ g) fun b => h' (none, b)) h
theorem DX.alloc {j : Nat} {F : Nat → (Nat → Gh) → Value} {C : Nat → (Nat → Gh) → Asn} {d : Option Tmp} {ty : TypeId} {pos : String} {aft : Array Edge} {t : TypeId} {v : Value} (hj : ops.toList[j]? = some ⟨d, .alloc t, ty, pos, aft, none⟩) (hR : (R.contains j && !(Nat.beq j J)) = true) (hz : TyZero P t v)
    (h : DX P r n ds S0 w0 G Q ops m wrl prl R J I A0 L0 f0 (j + 1) (updF F j (fun ρ => .pointer (some ⟨(ρ j).2, 0, none⟩))) (updF C j (fun ρ => own (ρ j).2 v.cells t))) : DX P r n ds S0 w0 G Q ops m wrl prl R J I A0 L0 f0 j F C :=
  DX.new (by rw [← Array.getElem?_toList]; exact hj) hR (fun x => .pointer (some ⟨x.2, 0, none⟩)) (fun x => own x.2 v.cells t) (fun ρ g M Q' h' => TO.alloc hz fun b => h' (none, b)) h
/-- The store to the piece at hand. -/
theorem DX.sto {F : Nat → (Nat → Gh) → Value} {C : Nat → (Nat → Gh) → Asn} {b o k : Nat} {x y : Operand} {t t' : TypeId} {cells cells' : Array Value} {v : Value} {ty : TypeId} {pos : String} {aft : Array Edge} (hj : ops.toList[J]? = some ⟨none, .store t x y, ty, pos, aft, none⟩) (hR : R.contains J = false)
    (hs : ∀ w, (sizeOf t).run P w = .ok k w) (hx : ∀ ρ g, ev n (mixG wrl prl F f0 J ρ g) x = .pointer (some ⟨b, o, none⟩)) (hy : ∀ ρ g, ev n (mixG wrl prl F f0 J ρ g) y = v) (hk : v.cells.size = k) (hc : over cells o v.cells.toList = cells') (hfit : o + k ≤ cells.size) (h1 : v.cells.toList.all (·.oneCell') = true)
    (h : DX P r n ds S0 w0 G Q ops m wrl prl R J m (own b cells t') L0 f0 (J + 1) (updF F J (fun _ => undef)) (updF C J (fun _ => own b cells' t'))) : DX P r n ds S0 w0 G Q ops m wrl prl R J m (own b cells t') L0 f0 J F C := fun hd => by
  have hj' := hj
  rw [Array.getElem?_toList] at hj'
  refine DRx.step ⟨fun _ => undef, fun _ => own b cells' t'⟩ (by simp [gspec]) ⟨fun i hi _ _ ρ x => ⟨rfl, rfl⟩, _, hj', .inr (.inr ⟨rfl, ?_, by simpa using hR⟩)⟩ ?_
  · intro ρ g X Q' _ h'
    rw [mixG_eq hd hj'] at h' ⊢
    refine TO.store0 hs (hx ρ g) (hy ρ g) hk hc hfit h1 ?_
    have e : (fun p => bif Nat.beq p m then emp else X p) = (fun p => bif Nat.beq p m then emp else X p) := rfl
    have e2 : mixLx (prOf prl) (gspec F C J) L0 m J m J ρ (own b cells' t') (fun p => bif Nat.beq p m then emp else X p) = mixLx (prOf prl) (gspec F C J) L0 m J m J ρ (own b cells' t') X := by
      unfold mixLx
      congr 2
      apply List.map_congr_left
      intro p hp
      have hpm : Nat.beq p m = false := beq_false (by have := List.mem_range.1 hp; omega)
      simp only [hpm, _root_.cond_false]
    rw [e2] at h'
    exact h'
  · rw [← gspec_succ]
    exact h hd
/-- The store to a piece that the region has made. -/
theorem DX.stn {F : Nat → (Nat → Gh) → Value} {C : Nat → (Nat → Gh) → Asn} {k : Nat} {x y : Operand} {t t' : TypeId} {cells cells' : Array Value} {v : Value} {ty : TypeId} {pos : String} {aft : Array Edge} (hj : ops.toList[J]? = some ⟨none, .store t x y, ty, pos, aft, none⟩) (hR : R.contains J = false) (hIJ : Nat.blt I J = true)
    (hIm : Nat.blt I m = true) (hpr : prOf prl J I = true) (hs : ∀ w, (sizeOf t).run P w = .ok k w) (hC : C I = fun ρ => own (ρ I).2 cells t') (hx : ∀ ρ g, ev n (mixG wrl prl F f0 J ρ g) x = .pointer (some ⟨(ρ I).2, 0, none⟩)) (hy : ∀ ρ g, ev n (mixG wrl prl F f0 J ρ g) y = v) (hk : v.cells.size = k) (hc : over cells 0 v.cells.toList = cells') (hfit : k ≤ cells.size) (h1 : v.cells.toList.all (·.oneCell') = true)
    (h : DX P r n ds S0 w0 G Q ops m wrl prl R J I emp L0 f0 (J + 1) (updF F J (fun _ => undef)) (updF C J (fun ρ => own (ρ I).2 cells' t'))) : DX P r n ds S0 w0 G Q ops m wrl prl R J I emp L0 f0 J F C := fun hd => by
  have hj' := hj
  rw [Array.getElem?_toList] at hj'
  have hI1 : I < J := Nat.le_of_ble_eq_true hIJ
  have hI2 : I < m := Nat.le_of_ble_eq_true hIm
  refine DRx.step ⟨fun _ => undef, fun ρ => own (ρ I).2 cells' t'⟩ (by simp [gspec]) ⟨fun i hi hne hpi ρ x => ?_, _, hj', .inr (.inr ⟨rfl, ?_, by simpa using hR⟩)⟩ ?_
  · have hiI : I ≠ i := fun e => by rw [← e, hpr] at hpi; cases hpi
    have : gupd ρ i x I = ρ I := by simp only [gupd, beq_false hiI, _root_.cond_false]
    simp only [this, and_self]
  · intro ρ g X Q' hXI h'
    rw [mixG_eq hd hj'] at h' ⊢
    have hXI' : X I = own (ρ I).2 cells t' := by rw [hXI hI2, gspec_get F C hI1]; show C I ρ = _; rw [hC]
    have hget : (mixLx (prOf prl) (gspec F C J) L0 m J I J ρ emp X)[I + 1]? = some (own (ρ I).2 cells t') := by
      unfold mixLx
      rw [List.cons_append, List.getElem?_cons_succ, List.getElem?_append_left (by simpa using hI2)]
      simp only [List.getElem?_map, List.getElem?_range hI2, Option.map_some]
      rw [show Nat.beq I I = true from by simp, Bool.not_true, Bool.and_false, _root_.cond_false, hXI']
    refine TO.store (I + 1) hs (hx ρ g) (hy ρ g) hk hget hc (by omega) (fun u hu => List.all_eq_true.1 h1 u hu) rfl ?_
    refine h'.conv fun S w hs' => ?_
    unfold mixLx at hs' ⊢
    rw [List.cons_append, List.set_cons_succ] at hs'
    have hlt : I < ((List.range m).map (fun p => bif (prOf prl J p && !(Nat.beq p J) && !(Nat.beq p I)) then ((gspec F C J).getD p dspec).c ρ else X p)).length := by simpa using hI2
    have h2 := seps_take I (A := own (ρ I).2 cells' t') (by rw [List.getElem?_set]; simp only [if_true, List.length_append]; rw [if_pos (by omega)]) hs'
    rw [List.set_set, List.set_append_left _ _ hlt] at h2
    rw [List.cons_append]
    have e4 : ((List.range m).map (fun p => bif (prOf prl J p && !(Nat.beq p J) && !(Nat.beq p I)) then ((gspec F C J).getD p dspec).c ρ else X p)).set I emp = (List.range m).map (fun p => bif (prOf prl J p && !(Nat.beq p J) && !(Nat.beq p I)) then ((gspec F C J).getD p dspec).c ρ else bif Nat.beq p I then emp else X p) := by
      apply List.ext_getElem?
      intro q
      by_cases hq : q < m
      · by_cases e : q = I
        · subst e
          rw [List.getElem?_set]
          simp only [if_true, List.length_map, List.length_range, hq, List.getElem?_map, List.getElem?_range hq, Option.map_some]
          rw [show Nat.beq q q = true from by simp, Bool.not_true, Bool.and_false, _root_.cond_false, _root_.cond_true]
        · rw [List.getElem?_set_ne (fun h => e h.symm)]
          simp only [List.getElem?_map, List.getElem?_range hq, Option.map_some, beq_false e, _root_.cond_false]
      · simp [hq]
    rw [e4] at h2
    exact h2
  · rw [← gspec_succ]
    exact h hd
theorem DX.done {F : Nat → (Nat → Gh) → Value} {C : Nat → (Nat → Gh) → Asn} {l : List Oper} (R' : List Nat) (hl : ops.toList.drop m = l) (hJ : Nat.blt J m = true) (hn : R'.Nodup) (hR : R'.all (fun j => Nat.blt j m && (!(Nat.beq j J) && !(Nat.beq j I))) = true) (h : ∀ ρ : Nat → Gh, TO P r n ds S0 w0 G ops Q l (C J ρ :: (R'.map (fun j => C j ρ) ++ L0)) (allG wrl F f0 ρ)) : DX P r n ds S0 w0 G Q ops m wrl prl R J I A0 L0 f0 m F C := fun hd => by
  refine DRx.done (by simp [gspec]) fun ρ => ?_
  have e : fullE (wrOf wrl) (gspec F C m) f0 ρ = allG wrl F f0 ρ := by
    funext t
    simp only [fullE, allG, wrL_eq]
    cases hw : wrOf wrl t with
    | none => rfl
    | some p => simp only; rw [gspec_get F C (hd.wrm t p hw).1]
  rw [e, hl]
  refine (h ρ).conv fun S w hs => ?_
  unfold fullLx at hs
  rw [gspec_get F C (Nat.le_of_ble_eq_true hJ)] at hs
  refine seps_under (fun S w hs => ?_) hs
  obtain ⟨S1, S2, h1, h2, h3, h4, h5⟩ := hs.split
  refine Seps.app h1 h2 h3 ?_ h5
  have := h4.sel hn
  have e2 : sel R' ((List.range m).map fun p => bif (!(Nat.beq p J) && !(Nat.beq p I)) then ((gspec F C m).getD p dspec).c ρ else emp) = R'.map fun j => C j ρ := by
    unfold sel
    apply List.map_congr_left
    intro j hj
    have h6 := List.all_eq_true.1 hR j hj
    rw [Bool.and_eq_true] at h6
    have hlt : j < m := Nat.le_of_ble_eq_true h6.1
    simp only [List.getD_eq_getElem?_getD, List.getElem?_map, List.getElem?_range, hlt, if_true, Option.map_some, Option.getD_some, h6.2, _root_.cond_true]
    have := gspec_get F C hlt
    simp only [List.getD_eq_getElem?_getD] at this
    rw [this]
  rw [e2] at this
  exact this
end
end Go.TL
end
section
/- Walks: what functions of the program do, by contract. Written by a program of this session. -/
set_option linter.unusedVariables false
set_option linter.unusedSimpArgs false
set_option maxRecDepth 100000
set_option maxHeartbeats 800000
namespace Go.Proofs
open Go.TL
attribute [local irreducible] Go.TL.T Go.TL.TO Go.TL.TQ
/- dialtone/dialtoneref15.Made -/
theorem c_ref15_Made (u : Nums) (A : Option Addr) (n cap : Nat) (hn : n = u.chain.length) (hx : NumsOk u) (hcl : u.chain.length ≤ 9223372036854775807) : Ctr Tryd.prog 11 #[.agg #[.int .i64 u.holder, .int .i64 u.r0, .int .i64 u.r1, .int .i64 u.s0, .int .i64 u.s1, .int .i64 u.carrier, .int .i64 u.serial, .slice A n cap]] [slc fiveL 5 A u.chain] [] (γ := Option Addr × Nat) (fun x => True) (fun x => .tuple #[wishV (madeW u), .slice x.1 (madeL u).length x.2]) (fun x => [row 41 7 x.1 (madeL u).length x.2 ((madeL u).flatMap proxyL)]) := by
  subst hn
  obtain ⟨⟨⟨x1, x1'⟩, ⟨x2, x2'⟩, ⟨x3, x3'⟩, ⟨x4, x4'⟩, ⟨x5, x5'⟩, ⟨x6, x6'⟩, ⟨x7, x7'⟩⟩, hch⟩ := hx
  have q1 := pickN_lo (c := u.r0) (n := 10000) (by decide)
  have q2 := pickN_hi (c := u.r0) (n := 10000) (by decide)
  have q3 := pickN_lo (c := u.r1) (n := 1000) (by decide)
  have q4 := pickN_hi (c := u.r1) (n := 1000) (by decide)
  have q5 := pickN_lo (c := u.s0) (n := 10000) (by decide)
  have q6 := pickN_hi (c := u.s0) (n := 10000) (by decide)
  have q7 := pickN_lo (c := u.s1) (n := 1000) (by decide)
  have q8 := pickN_hi (c := u.s1) (n := 1000) (by decide)
  refine Ctr.intro Tryd.func11 rfl Tryd.ntmps11 (Nat.le_of_ble_eq_true rfl) fun S0 w0 => ?_
  refine T.seq ?_
  refine T.region ?_
  refine TO.box (v := .agg #[.int _ _, .int _ _, .int _ _, .int _ _, .int _ _, .int _ _, .int _ _, .slice _ _ _]) rfl (fun b1 => ?_)
  refine TO.alloc Tryd.zero31 (fun b2 => ?_)
  refine TO.rd rfl rfl (rd_assign (v := .slice _ _ _) rfl) ?_
  refine TO.nil ?_
  refine TQ.then_normal ?_
  refine T.seq ?_
  refine T.region ?_
  refine TO.rd rfl rfl (rd_fieldAddr Tryd.field25_1 rfl) ?_
  refine TO.rd rfl rfl (rd_ixa 0 Tryd.under22 Tryd.size3 rfl rfl rfl (by decide)) ?_
  refine TO.rd rfl rfl (rd_load (v := .int _ _) Tryd.one3 rfl (Has.own 1 rfl) rfl) ?_
  refine TO.fn Tryd.enters35 (c_ref15_pick _ _ (by omega) (by omega) (by omega) (by omega)) rfl Reads0 ?_
  refine TO.rd rfl rfl (rd_assign (v := .int _ _) rfl) ?_
  refine TO.nil ?_
  refine TQ.then_normal ?_
  refine T.seq ?_
  refine T.region ?_
  refine TO.rd rfl rfl (rd_move (v := .int _ _) rfl) ?_
  refine TO.rd rfl rfl (rd_move (v := .int _ _) rfl) ?_
  refine TO.rd rfl rfl (rd_add rfl rfl (w64 (by omega) (by omega))) ?_
  refine TO.rd rfl rfl (rd_fieldAddr Tryd.field25_1 rfl) ?_
  refine TO.rd rfl rfl (rd_ixa 1 Tryd.under22 Tryd.size3 rfl rfl rfl (by decide)) ?_
  refine TO.rd rfl rfl (rd_load (v := .int _ _) Tryd.one3 rfl (Has.own 1 rfl) rfl) ?_
  refine TO.fn Tryd.enters35 (c_ref15_pick _ _ (by omega) (by omega) (by omega) (by omega)) rfl Reads0 ?_
  refine TO.rd rfl rfl (rd_add rfl rfl (w64 (by omega) (by omega))) ?_
  refine TO.rd rfl rfl (rd_build (cs := [.int _ _, .int _ _]) Tryd.places28 Tryd.zero28 rfl rfl) ?_
  refine TO.alloc Tryd.zero28 (fun b3 => ?_)
  refine TO.store0 (cells' := #[.int _ _, .int _ _]) Tryd.size28 rfl (v := .agg #[.int _ _, .int _ _]) rfl rfl rfl (Nat.le_of_ble_eq_true rfl) rfl ?_
  refine TO.nil ?_
  refine TQ.then_normal ?_
  refine T.seq ?_
  refine T.region ?_
  refine TO.rd rfl rfl (rd_fieldAddr Tryd.field25_2 rfl) ?_
  refine TO.rd rfl rfl (rd_ixa 0 Tryd.under22 Tryd.size3 rfl rfl rfl (by decide)) ?_
  refine TO.rd rfl rfl (rd_load (v := .int _ _) Tryd.one3 rfl (Has.own 2 rfl) rfl) ?_
  refine TO.fn Tryd.enters35 (c_ref15_pick _ _ (by omega) (by omega) (by omega) (by omega)) rfl Reads0 ?_
  refine TO.rd rfl rfl (rd_assign (v := .int _ _) rfl) ?_
  refine TO.nil ?_
  refine TQ.then_normal ?_
  refine T.seq ?_
  refine T.region ?_
  refine TO.rd rfl rfl (rd_move (v := .int _ _) rfl) ?_
  refine TO.rd rfl rfl (rd_move (v := .int _ _) rfl) ?_
  refine TO.rd rfl rfl (rd_add rfl rfl (w64 (by omega) (by omega))) ?_
  refine TO.rd rfl rfl (rd_fieldAddr Tryd.field25_2 rfl) ?_
  refine TO.rd rfl rfl (rd_ixa 1 Tryd.under22 Tryd.size3 rfl rfl rfl (by decide)) ?_
  refine TO.rd rfl rfl (rd_load (v := .int _ _) Tryd.one3 rfl (Has.own 2 rfl) rfl) ?_
  refine TO.fn Tryd.enters35 (c_ref15_pick _ _ (by omega) (by omega) (by omega) (by omega)) rfl Reads0 ?_
  refine TO.rd rfl rfl (rd_add rfl rfl (w64 (by omega) (by omega))) ?_
  refine TO.rd rfl rfl (rd_build (cs := [.int _ _, .int _ _]) Tryd.places29 Tryd.zero29 rfl rfl) ?_
  refine TO.alloc Tryd.zero29 (fun b4 => ?_)
  refine TO.store0 (cells' := #[.int _ _, .int _ _]) Tryd.size29 rfl (v := .agg #[.int _ _, .int _ _]) rfl rfl rfl (Nat.le_of_ble_eq_true rfl) rfl ?_
  refine TO.nil ?_
  refine TQ.then_normal ?_
  refine T.seq ?_
  refine T.region ?_
  refine TO.rd rfl rfl (rd_fieldAddr Tryd.field25_0 rfl) ?_
  refine TO.rd rfl rfl (rd_load (v := .int _ _) Tryd.one3 rfl (Has.own 3 rfl) rfl) ?_
  refine TO.fn Tryd.enters35 (c_ref15_pick _ _ (by omega) (by omega) (by omega) (by omega)) rfl Reads0 ?_
  refine TO.rd rfl rfl (rd_assign (v := .int _ _) rfl) ?_
  refine TO.nil ?_
  refine TQ.then_normal ?_
  refine T.seq ?_
  refine T.drawg Tryd.mixes 9 [(47, 0), (48, 1), (49, 2), (50, 3), (51, 4), (52, 5), (53, 6), (54, 7), (9, 8)] [0, 0, 2, 6, 0, 16, 62, 127, 0, 511] [8] (by kernel_rfl) ?_
  refine DG.rd rfl rfl rfl (fun _ _ => rd_move (v := .int _ _) rfl) ?_
  refine DG.rd rfl rfl rfl (fun _ _ => rd_fieldAddr Tryd.field25_3 rfl) ?_
  refine DG.rd rfl rfl rfl (fun _ _ => rd_load (v := .int _ _) Tryd.one3 rfl (Has.own 3 rfl) rfl) ?_
  refine DG.fn rfl rfl Tryd.enters35 (c_ref15_pick _ _ (by omega) (by omega) (by omega) (by omega)) (fun _ _ => rfl) Reads0 ?_
  refine DG.rd rfl rfl rfl (fun _ _ => rd_fieldAddr Tryd.field25_4 rfl) ?_
  refine DG.rd rfl rfl rfl (fun _ _ => rd_load (v := .int _ _) Tryd.one3 rfl (Has.own 3 rfl) rfl) ?_
  refine DG.fn rfl rfl Tryd.enters35 (c_ref15_pick _ _ (by omega) (by omega) (by omega) (by omega)) (fun _ _ => rfl) Reads0 ?_
  refine DG.rd rfl rfl rfl (fun _ _ => rd_build (cs := [.int _ _, .int _ _, .int _ _, .int _ _, .int _ _, .int _ _, .int _ _, .int _ _, .string _]) Tryd.places31 Tryd.zero31 rfl rfl) ?_
  refine DG.alloc rfl rfl Tryd.zero31 ?_
  refine DG.done rfl (by decide) rfl (fun gh6 => ?_)
  refine TO.store0 (cells' := #[.int _ _, .int _ _, .int _ _, .int _ _, .int _ _, .int _ _, .int _ _, .int _ _, .string _]) Tryd.size31 rfl (v := .agg #[.int _ _, .int _ _, .int _ _, .int _ _, .int _ _, .int _ _, .int _ _, .int _ _, .string _]) rfl rfl rfl (Nat.le_of_ble_eq_true rfl) rfl ?_
  refine TO.nil ?_
  refine TQ.then_normal ?_
  refine T.seq ?_
  refine T.region ?_
  refine TO.rd rfl rfl (rd_assign (v := .slice none 0 0) rfl) ?_
  refine TO.newrow 41 7 ?_
  refine TO.nil ?_
  refine TQ.then_normal ?_
  refine T.seq ?_
  refine T.seq ?_
  refine T.region ?_
  refine TO.rd rfl rfl (rd_assign (v := .int _ _) rfl) ?_
  refine TO.nil ?_
  refine TQ.then_normal ?_
  refine T.block ?_
  refine T.front2 ?_
  refine T.front3 ?_
  refine T.loop4 [1, 2, 5, 7, 9] (fun (A1 : Option Addr) (cap1 : Nat) (k : Nat) (m : MS) => [(8, .int .i64 m.who), (10, .slice A1 k cap1), (11, .int .i64 (k : Nat))]) (fun (A1 : Option Addr) (cap1 : Nat) (k : Nat) (m : MS) => [own b3 #[.int .i64 m.a, .int .i64 m.b] 28, own b4 #[.int .i64 m.c, .int .i64 m.d] 29, row 41 7 A1 k cap1 (m.l.flatMap proxyL)]) (fun (A1 : Option Addr) (cap1 : Nat) (k : Nat) (m : MS) => m = mrun u k ∧ MOk m ∧ k ≤ u.chain.length ∧ k ≤ 4 ∧ m.l.length = k) (fun (A1 : Option Addr) (cap1 : Nat) (k : Nat) (m : MS) => 4 - k) (none) (0) (0) (mstart u) (⟨rfl, mstart_ok u, Nat.zero_le _, Nat.zero_le _, rfl⟩) (And.intro (rfl) (And.intro (rfl) (And.intro (rfl) (trivial)))) (fun _ _ h => h) fun A1 cap1 k m g0 hx0 => ?_
  obtain ⟨hm, hok, hk, hk4, hml⟩ := hx0
  have hok' := hok
  obtain ⟨⟨o1, o2⟩, ⟨o3, o4, o5⟩, o6, o7, o8⟩ := hok
  refine T.seq ?_
  refine T.seq ?_
  refine T.region ?_
  refine TO.rd rfl rfl (rd_move (v := .int _ _) rfl) ?_
  refine TO.rd rfl rfl (rd_fieldAddr Tryd.field25_5 rfl) ?_
  refine TO.rd rfl rfl (rd_load (v := .slice _ _ _) Tryd.one23 rfl (Has.own 5 rfl) rfl) ?_
  refine TO.rd rfl rfl (rd_lensl Tryd.under23 rfl) ?_
  refine TO.rd rfl rfl (rd_lss rfl rfl) ?_
  refine TO.rd rfl rfl (rd_move (v := .bool _) rfl) ?_
  refine TO.decide_ft (s := 60) rfl (fun h8 => ?_) (fun h8 => ?_)
  · try simp only [decide_eq_true_eq, decide_eq_false_iff_not, Bool.not_eq_true', Bool.not_eq_false', Bool.not_eq_eq_eq_not, Bool.not_true, Bool.not_false, beq_iff_eq, beq_eq_false_iff_ne, bne_iff_ne, bne_eq_false_iff_eq, ne_eq, Int.not_lt, Int.not_le, Decidable.not_not] at h8
    refine TO.guard_false (s := 60) (b' := false) rfl rfl nofun ?_
    refine TO.guard_false (s := 60) (b' := false) rfl rfl nofun ?_
    refine TO.rd rfl rfl (rd_pick_false (v := .bool _) rfl rfl) ?_
    refine TO.nil ?_
    refine TQ.then_normal ?_
    refine T.cond_false rfl ?_
    refine T.exit ?_
    refine TQ.then_exit ?_
    refine TQ.then_exit ?_
    refine TQ.block_out ?_
    refine TQ.then_normal ?_
    refine T.seq ?_
    refine T.region ?_
    refine TO.rd rfl rfl (rd_move (v := .int _ _) rfl) ?_
    refine TO.rd rfl rfl (rd_fieldAddr Tryd.field31_0 rfl) ?_
    refine TO.front3 ?_
    refine TO.store0 (cells' := #[.int _ _, .int _ _, .int _ _, .int _ _, .int _ _, .int _ _, .int _ _, .int _ _, .string _]) Tryd.size3 rfl (v := .int _ _) rfl rfl rfl (Nat.le_of_ble_eq_true rfl) rfl ?_
    refine TO.nil ?_
    refine TQ.then_normal ?_
    refine T.seq ?_
    refine T.region ?_
    refine TO.rd rfl rfl (rd_load_agg (cs := #[.int _ _, .int _ _]) Tryd.agg28 rfl (Has.own 1 rfl) rfl rfl) ?_
    refine TO.rd rfl rfl (rd_fieldAddr Tryd.field31_2 rfl) ?_
    refine TO.store0 (cells' := #[.int _ _, .int _ _, .int _ _, .int _ _, .int _ _, .int _ _, .int _ _, .int _ _, .string _]) Tryd.size28 rfl (v := .agg #[.int _ _, .int _ _]) rfl rfl rfl (Nat.le_of_ble_eq_true rfl) rfl ?_
    refine TO.nil ?_
    refine TQ.then_normal ?_
    refine T.seq ?_
    refine T.region ?_
    refine TO.rd rfl rfl (rd_load_agg (cs := #[.int _ _, .int _ _]) Tryd.agg29 rfl (Has.own 2 rfl) rfl rfl) ?_
    refine TO.rd rfl rfl (rd_fieldAddr Tryd.field31_5 rfl) ?_
    refine TO.store0 (cells' := #[.int _ _, .int _ _, .int _ _, .int _ _, .int _ _, .int _ _, .int _ _, .int _ _, .string _]) Tryd.size29 rfl (v := .agg #[.int _ _, .int _ _]) rfl rfl rfl (Nat.le_of_ble_eq_true rfl) rfl ?_
    refine TO.nil ?_
    refine TQ.then_normal ?_
    refine T.seq ?_
    refine T.drawn Tryd.mixes 9 [(130, 0), (131, 1), (132, 2), (133, 3), (129, 4), (134, 5), (135, 6), (16, 7)] [0, 1, 0, 7, 15, 31, 31, 0, 191, 511] [7] 8 7 (by kernel_rfl) rfl ?_
    refine DX.rd rfl rfl rfl (fun _ _ => rd_move (v := .int _ _) rfl) ?_
    refine DX.fn rfl rfl Tryd.enters13 (c_ref15_Key _) (fun _ _ => rfl) Reads0 ?_
    refine DX.rd rfl rfl rfl (fun _ _ => rd_load_agg (cs := #[.int _ _, .int _ _, .int _ _, .int _ _, .int _ _, .int _ _, .int _ _, .int _ _, .string _]) Tryd.agg31 rfl (Has.own 0 rfl) rfl rfl) ?_
    refine DX.fn rfl rfl Tryd.enters38 (c_ref15_SignWish (keyB m.who) (wishOfM u m) (by first | omega | exact wishText_le _ | exact proxyText_le _ | exact puts3_le _ _ _ | (simp only [List.length_append, List.length_cons, List.length_nil, sha_len, leafOf_len, nodeOf_len, sealOf_len, List.length_take, List.length_drop]; omega) | (rw [keyB_len]; omega))) (fun _ _ => rfl) Reads0 ?_
    refine DX.rd rfl rfl rfl (fun _ _ => rd_move (v := .tuple _) rfl) ?_
    refine DX.rd rfl rfl rfl (fun _ _ => rd_extract (v := .agg _) (vs := _) rfl rfl) ?_
    refine DX.rd rfl rfl rfl (fun _ _ => rd_extract (v := .int _ _) (vs := _) rfl rfl) ?_
    refine DX.alloc rfl rfl Tryd.zero31 ?_
    refine DX.stn (v := .agg #[.int _ _, .int _ _, .int _ _, .int _ _, .int _ _, .int _ _, .int _ _, .int _ _, .string _]) (cells' := #[.int _ _, .int _ _, .int _ _, .int _ _, .int _ _, .int _ _, .int _ _, .int _ _, .string _]) rfl rfl rfl rfl (by kernel_rfl) Tryd.size31 rfl (fun _ _ => rfl) (fun _ _ => rfl) rfl rfl (Nat.le_of_ble_eq_true rfl) rfl ?_
    refine DX.done [] rfl rfl (by decide) rfl (fun gh22 => ?_)
    refine TO.rd rfl rfl (rd_assign (v := .int _ _) rfl) ?_
    refine TO.nil ?_
    refine TQ.then_normal ?_
    refine T.seq ?_
    refine T.region ?_
    refine TO.rd rfl rfl (rd_load_agg (cs := #[.int _ _, .int _ _, .int _ _, .int _ _, .int _ _, .int _ _, .int _ _, .int _ _, .string _]) Tryd.agg31 rfl (Has.own 0 rfl) rfl rfl) ?_
    refine TO.rd rfl rfl (rd_move (v := .slice _ _ _) rfl) ?_
    refine TO.front5 ?_
    refine TO.store0 (cells' := #[.int _ _, .int _ _, .int _ _, .int _ _, .int _ _, .int _ _, .int _ _, .int _ _, .string _]) Tryd.size31 rfl (v := .agg #[.int _ _, .int _ _, .int _ _, .int _ _, .int _ _, .int _ _, .int _ _, .int _ _, .string _]) rfl rfl rfl (Nat.le_of_ble_eq_true rfl) rfl ?_
    refine TO.rd rfl rfl (rd_assign (v := .slice _ _ _) rfl) ?_
    refine TO.nil ?_
    refine TQ.then_normal ?_
    refine T.ret ?_
    have hf : m = mfin u := by rw [hm, mfin]; congr 1; omega
    refine TQ.done ((A1, cap1)) (trivial) ?_ (fun _ _ h => by rw [madeL, ← hf]; exact seps_row 5 rfl hml.symm rfl h) (res2 Tryd.results11 (Res.cells (cs := #[.int _ _, .int _ _, .int _ _, .int _ _, .int _ _, .int _ _, .int _ _, .int _ _, .string _]) Tryd.agg31 rfl (Has.own 0 rfl) rfl rfl) (Res.tmp (v := .slice _ _ _) rfl)) _ (.inl rfl)
    rw [madeL, madeW, ← hf, hml]; rfl
  try simp only [decide_eq_true_eq, decide_eq_false_iff_not, Bool.not_eq_true', Bool.not_eq_false', Bool.not_eq_eq_eq_not, Bool.not_true, Bool.not_false, beq_iff_eq, beq_eq_false_iff_ne, bne_iff_ne, bne_eq_false_iff_eq, ne_eq, Int.not_lt, Int.not_le, Decidable.not_not] at h8
  refine TO.guard_true (s := 60) rfl rfl ?_
  refine TO.rd rfl rfl (rd_move (v := .int _ _) rfl) ?_
  refine TO.guard_true (s := 60) rfl rfl ?_
  refine TO.rd rfl rfl (rd_lss rfl rfl) ?_
  refine TO.rd rfl rfl (rd_pick_true (v := .bool _) rfl rfl) ?_
  refine TO.nil ?_
  refine TQ.then_normal ?_
  refine T.cond_ft rfl (fun h9 => ?_) (fun h9 => ?_)
  · try simp only [decide_eq_true_eq, decide_eq_false_iff_not, Bool.not_eq_true', Bool.not_eq_false', Bool.not_eq_eq_eq_not, Bool.not_true, Bool.not_false, beq_iff_eq, beq_eq_false_iff_ne, bne_iff_ne, bne_eq_false_iff_eq, ne_eq, Int.not_lt, Int.not_le, Decidable.not_not] at h9
    refine T.exit ?_
    refine TQ.then_exit ?_
    refine TQ.then_exit ?_
    refine TQ.block_out ?_
    refine TQ.then_normal ?_
    refine T.seq ?_
    refine T.region ?_
    refine TO.rd rfl rfl (rd_move (v := .int _ _) rfl) ?_
    refine TO.rd rfl rfl (rd_fieldAddr Tryd.field31_0 rfl) ?_
    refine TO.front3 ?_
    refine TO.store0 (cells' := #[.int _ _, .int _ _, .int _ _, .int _ _, .int _ _, .int _ _, .int _ _, .int _ _, .string _]) Tryd.size3 rfl (v := .int _ _) rfl rfl rfl (Nat.le_of_ble_eq_true rfl) rfl ?_
    refine TO.nil ?_
    refine TQ.then_normal ?_
    refine T.seq ?_
    refine T.region ?_
    refine TO.rd rfl rfl (rd_load_agg (cs := #[.int _ _, .int _ _]) Tryd.agg28 rfl (Has.own 1 rfl) rfl rfl) ?_
    refine TO.rd rfl rfl (rd_fieldAddr Tryd.field31_2 rfl) ?_
    refine TO.store0 (cells' := #[.int _ _, .int _ _, .int _ _, .int _ _, .int _ _, .int _ _, .int _ _, .int _ _, .string _]) Tryd.size28 rfl (v := .agg #[.int _ _, .int _ _]) rfl rfl rfl (Nat.le_of_ble_eq_true rfl) rfl ?_
    refine TO.nil ?_
    refine TQ.then_normal ?_
    refine T.seq ?_
    refine T.region ?_
    refine TO.rd rfl rfl (rd_load_agg (cs := #[.int _ _, .int _ _]) Tryd.agg29 rfl (Has.own 2 rfl) rfl rfl) ?_
    refine TO.rd rfl rfl (rd_fieldAddr Tryd.field31_5 rfl) ?_
    refine TO.store0 (cells' := #[.int _ _, .int _ _, .int _ _, .int _ _, .int _ _, .int _ _, .int _ _, .int _ _, .string _]) Tryd.size29 rfl (v := .agg #[.int _ _, .int _ _]) rfl rfl rfl (Nat.le_of_ble_eq_true rfl) rfl ?_
    refine TO.nil ?_
    refine TQ.then_normal ?_
    refine T.seq ?_
    refine T.drawn Tryd.mixes 9 [(130, 0), (131, 1), (132, 2), (133, 3), (129, 4), (134, 5), (135, 6), (16, 7)] [0, 1, 0, 7, 15, 31, 31, 0, 191, 511] [7] 8 7 (by kernel_rfl) rfl ?_
    refine DX.rd rfl rfl rfl (fun _ _ => rd_move (v := .int _ _) rfl) ?_
    refine DX.fn rfl rfl Tryd.enters13 (c_ref15_Key _) (fun _ _ => rfl) Reads0 ?_
    refine DX.rd rfl rfl rfl (fun _ _ => rd_load_agg (cs := #[.int _ _, .int _ _, .int _ _, .int _ _, .int _ _, .int _ _, .int _ _, .int _ _, .string _]) Tryd.agg31 rfl (Has.own 0 rfl) rfl rfl) ?_
    refine DX.fn rfl rfl Tryd.enters38 (c_ref15_SignWish (keyB m.who) (wishOfM u m) (by first | omega | exact wishText_le _ | exact proxyText_le _ | exact puts3_le _ _ _ | (simp only [List.length_append, List.length_cons, List.length_nil, sha_len, leafOf_len, nodeOf_len, sealOf_len, List.length_take, List.length_drop]; omega) | (rw [keyB_len]; omega))) (fun _ _ => rfl) Reads0 ?_
    refine DX.rd rfl rfl rfl (fun _ _ => rd_move (v := .tuple _) rfl) ?_
    refine DX.rd rfl rfl rfl (fun _ _ => rd_extract (v := .agg _) (vs := _) rfl rfl) ?_
    refine DX.rd rfl rfl rfl (fun _ _ => rd_extract (v := .int _ _) (vs := _) rfl rfl) ?_
    refine DX.alloc rfl rfl Tryd.zero31 ?_
    refine DX.stn (v := .agg #[.int _ _, .int _ _, .int _ _, .int _ _, .int _ _, .int _ _, .int _ _, .int _ _, .string _]) (cells' := #[.int _ _, .int _ _, .int _ _, .int _ _, .int _ _, .int _ _, .int _ _, .int _ _, .string _]) rfl rfl rfl rfl (by kernel_rfl) Tryd.size31 rfl (fun _ _ => rfl) (fun _ _ => rfl) rfl rfl (Nat.le_of_ble_eq_true rfl) rfl ?_
    refine DX.done [] rfl rfl (by decide) rfl (fun gh20 => ?_)
    refine TO.rd rfl rfl (rd_assign (v := .int _ _) rfl) ?_
    refine TO.nil ?_
    refine TQ.then_normal ?_
    refine T.seq ?_
    refine T.region ?_
    refine TO.rd rfl rfl (rd_load_agg (cs := #[.int _ _, .int _ _, .int _ _, .int _ _, .int _ _, .int _ _, .int _ _, .int _ _, .string _]) Tryd.agg31 rfl (Has.own 0 rfl) rfl rfl) ?_
    refine TO.rd rfl rfl (rd_move (v := .slice _ _ _) rfl) ?_
    refine TO.front5 ?_
    refine TO.store0 (cells' := #[.int _ _, .int _ _, .int _ _, .int _ _, .int _ _, .int _ _, .int _ _, .int _ _, .string _]) Tryd.size31 rfl (v := .agg #[.int _ _, .int _ _, .int _ _, .int _ _, .int _ _, .int _ _, .int _ _, .int _ _, .string _]) rfl rfl rfl (Nat.le_of_ble_eq_true rfl) rfl ?_
    refine TO.rd rfl rfl (rd_assign (v := .slice _ _ _) rfl) ?_
    refine TO.nil ?_
    refine TQ.then_normal ?_
    refine T.ret ?_
    have hf : m = mfin u := by rw [hm, mfin]; congr 1; omega
    refine TQ.done ((A1, cap1)) (trivial) ?_ (fun _ _ h => by rw [madeL, ← hf]; exact seps_row 5 rfl hml.symm rfl h) (res2 Tryd.results11 (Res.cells (cs := #[.int _ _, .int _ _, .int _ _, .int _ _, .int _ _, .int _ _, .int _ _, .int _ _, .string _]) Tryd.agg31 rfl (Has.own 0 rfl) rfl rfl) (Res.tmp (v := .slice _ _ _) rfl)) _ (.inl rfl)
    rw [madeL, madeW, ← hf, hml]; rfl
  try simp only [decide_eq_true_eq, decide_eq_false_iff_not, Bool.not_eq_true', Bool.not_eq_false', Bool.not_eq_eq_eq_not, Bool.not_true, Bool.not_false, beq_iff_eq, beq_eq_false_iff_ne, bne_iff_ne, bne_eq_false_iff_eq, ne_eq, Int.not_lt, Int.not_le, Decidable.not_not] at h9
  refine T.skip ?_
  refine TQ.then_normal ?_
  refine T.seq ?_
  refine T.block ?_
  refine T.seq ?_
  refine T.region ?_
  refine TO.rd rfl rfl (rd_fieldAddr Tryd.field25_5 rfl) ?_
  refine TO.rd rfl rfl (rd_load (v := .slice _ _ _) Tryd.one23 rfl (Has.own 5 rfl) rfl) ?_
  refine TO.rd rfl rfl (rd_move (v := .int _ _) rfl) ?_
  refine TO.rd rfl rfl (rd_ix (k := k) Tryd.under23 Tryd.size76 rfl rfl (Has.arg 0 rfl) rfl (by omega) (by omega)) ?_
  refine TO.rd rfl rfl (rd_ela (cs := [.int _ _, .int _ _, .int _ _, .int _ _, .int _ _]) k 0 Tryd.agg76 rfl (Has.arg 0 rfl) rfl (by omega) (Nat.le_of_ble_eq_true rfl) rfl rfl rfl) ?_
  have hkl : k < u.chain.length := by omega
  obtain ⟨⟨y1, y1'⟩, ⟨y2, y2'⟩, ⟨y3, y3'⟩, ⟨y4, y4'⟩, ⟨y5, y5'⟩⟩ := hch k hkl
  refine TO.alloc Tryd.zero76 (fun b10 => ?_)
  refine TO.store0 (cells' := #[.int _ _, .int _ _, .int _ _, .int _ _, .int _ _]) Tryd.size76 rfl (v := .agg #[.int _ _, .int _ _, .int _ _, .int _ _, .int _ _]) rfl rfl rfl (Nat.le_of_ble_eq_true rfl) rfl ?_
  refine TO.nil ?_
  refine TQ.then_normal ?_
  refine T.seq ?_
  refine T.drawg Tryd.mixes 12 [(71, 0), (72, 1), (73, 2), (74, 3), (75, 4), (76, 5), (77, 6), (78, 7), (79, 8), (80, 9), (81, 10), (13, 11)] [0, 0, 2, 0, 8, 24, 62, 126, 0, 0, 1023, 0, 4095] [11] (by kernel_rfl) ?_
  refine DG.rd rfl rfl rfl (fun _ _ => rd_move (v := .int _ _) rfl) ?_
  refine DG.rd rfl rfl rfl (fun _ _ => rd_move (v := .int _ _) rfl) ?_
  refine DG.rd rfl rfl rfl (fun _ _ => rd_add rfl rfl (w64 (by omega) (by omega))) ?_
  refine DG.rd rfl rfl rfl (fun _ _ => rd_ixa 0 Tryd.under76 Tryd.size3 rfl rfl rfl (by decide)) ?_
  refine DG.rd rfl rfl rfl (fun _ _ => rd_load (v := .int _ _) Tryd.one3 rfl (Has.own 0 rfl) rfl) ?_
  refine DG.fn rfl rfl Tryd.enters35 (c_ref15_pick _ _ (by omega) (by omega) (by omega) (by omega)) (fun _ _ => rfl) Reads0 ?_
  have e1 := pickN_lo (c := (u.chain[k]'hkl).a) (n := 9) (by decide)
  have e2 := pickN_hi (c := (u.chain[k]'hkl).a) (n := 9) (by decide)
  refine DG.rd rfl rfl rfl (fun _ _ => rd_add rfl rfl (w64 (by omega) (by omega))) ?_
  refine DG.rd rfl rfl rfl (fun _ _ => rd_rem rfl rfl (by omega) (Int.tmod_eq_emod_of_nonneg (by omega))) ?_
  refine DG.rd rfl rfl rfl (fun _ _ => rd_load_agg (cs := #[.int _ _, .int _ _]) Tryd.agg28 rfl (Has.own 1 rfl) rfl rfl) ?_
  refine DG.rd rfl rfl rfl (fun _ _ => rd_load_agg (cs := #[.int _ _, .int _ _]) Tryd.agg29 rfl (Has.own 2 rfl) rfl rfl) ?_
  refine DG.rd rfl rfl rfl (fun _ _ => rd_build (cs := [.int _ _, .int _ _, .int _ _, .int _ _, .int _ _, .int _ _, .string _]) Tryd.places41 Tryd.zero41 rfl rfl) ?_
  refine DG.alloc rfl rfl Tryd.zero41 ?_
  refine DG.done rfl (by decide) rfl (fun gh12 => ?_)
  refine TO.store0 (cells' := #[.int _ _, .int _ _, .int _ _, .int _ _, .int _ _, .int _ _, .string _]) Tryd.size41 rfl (v := .agg #[.int _ _, .int _ _, .int _ _, .int _ _, .int _ _, .int _ _, .string _]) rfl rfl rfl (Nat.le_of_ble_eq_true rfl) rfl ?_
  refine TO.nil ?_
  refine TQ.then_normal ?_
  refine T.seq ?_
  refine T.drawn Tryd.mixes 9 [(83, 0), (84, 1), (85, 2), (86, 3), (82, 4), (87, 5), (88, 6), (14, 7)] [0, 1, 0, 7, 15, 31, 31, 0, 191, 511] [7] 8 7 (by kernel_rfl) rfl ?_
  refine DX.rd rfl rfl rfl (fun _ _ => rd_move (v := .int _ _) rfl) ?_
  refine DX.fn rfl rfl Tryd.enters13 (c_ref15_Key _) (fun _ _ => rfl) Reads0 ?_
  refine DX.rd rfl rfl rfl (fun _ _ => rd_load_agg (cs := #[.int _ _, .int _ _, .int _ _, .int _ _, .int _ _, .int _ _, .string _]) Tryd.agg41 rfl (Has.own 0 rfl) rfl rfl) ?_
  refine DX.fn rfl rfl Tryd.enters36 (c_ref15_SignProxy (keyB m.who) (⟨m.who, (m.who + 1 + pickN (u.chain[k]'hkl).a 9) % 10, m.a, m.b, m.c, m.d, []⟩) (by first | omega | exact wishText_le _ | exact proxyText_le _ | exact puts3_le _ _ _ | (simp only [List.length_append, List.length_cons, List.length_nil, sha_len, leafOf_len, nodeOf_len, sealOf_len, List.length_take, List.length_drop]; omega) | (rw [keyB_len]; omega))) (fun _ _ => rfl) Reads0 ?_
  refine DX.rd rfl rfl rfl (fun _ _ => rd_move (v := .tuple _) rfl) ?_
  refine DX.rd rfl rfl rfl (fun _ _ => rd_extract (v := .agg _) (vs := _) rfl rfl) ?_
  refine DX.rd rfl rfl rfl (fun _ _ => rd_extract (v := .int _ _) (vs := _) rfl rfl) ?_
  refine DX.alloc rfl rfl Tryd.zero41 ?_
  refine DX.stn (v := .agg #[.int _ _, .int _ _, .int _ _, .int _ _, .int _ _, .int _ _, .string _]) (cells' := #[.int _ _, .int _ _, .int _ _, .int _ _, .int _ _, .int _ _, .string _]) rfl rfl rfl rfl (by kernel_rfl) Tryd.size41 rfl (fun _ _ => rfl) (fun _ _ => rfl) rfl rfl (Nat.le_of_ble_eq_true rfl) rfl ?_
  refine DX.done [] rfl rfl (by decide) rfl (fun gh14 => ?_)
  refine TO.rd rfl rfl (rd_assign (v := .int _ _) rfl) ?_
  refine TO.nil ?_
  refine TQ.then_normal ?_
  refine T.seq ?_
  refine T.region ?_
  refine TO.rd rfl rfl (rd_move (v := .slice _ _ _) rfl) ?_
  refine TO.rd rfl rfl (rd_load_agg (cs := #[.int _ _, .int _ _, .int _ _, .int _ _, .int _ _, .int _ _, .string _]) Tryd.agg41 rfl (Has.own 0 rfl) rfl rfl) ?_
  refine TO.buildS (cs := [.int _ _, .int _ _, .int _ _, .int _ _, .int _ _, .int _ _, .string _]) Tryd.under32 Tryd.size41 Tryd.zero41 (Nat.le_of_ble_eq_true rfl) rfl (fun b15 => ?_)
  refine TO.front6 ?_
  refine TO.app Tryd.trow41 Tryd.under32 (.inl ⟨_, Tryd.under32⟩) rfl rfl (Src.own1 1 rfl rfl) rfl rfl (by omega) (fun A16 c17 hc18 => ?_)
  refine TO.row_eq (k' := k + 1) (cs' := (mstep m (u.chain[k]'hkl)).l.flatMap proxyL) rfl (by simp only [mstep, List.flatMap_append]; rfl) ?_
  refine TO.rd rfl rfl (rd_assign (v := .slice _ _ _) rfl) ?_
  refine TO.nil ?_
  refine TQ.then_normal ?_
  refine T.seq ?_
  refine T.region ?_
  refine TO.rd rfl rfl (rd_fieldAddr Tryd.field41_1 rfl) ?_
  refine TO.rd rfl rfl (rd_load (v := .int _ _) Tryd.one3 rfl (Has.own 3 rfl) rfl) ?_
  refine TO.rd rfl rfl (rd_assign (v := .int _ _) rfl) ?_
  refine TO.nil ?_
  refine TQ.then_normal ?_
  refine T.seq ?_
  refine T.region ?_
  refine TO.rd rfl rfl (rd_fieldAddr Tryd.field28_0 rfl) ?_
  refine TO.rd rfl rfl (rd_load (v := .int _ _) Tryd.one3 rfl (Has.own 5 rfl) rfl) ?_
  refine TO.rd rfl rfl (rd_fieldAddr Tryd.field28_1 rfl) ?_
  refine TO.rd rfl rfl (rd_load (v := .int _ _) Tryd.one3 rfl (Has.own 5 rfl) rfl) ?_
  refine TO.rd rfl rfl (rd_ixa 1 Tryd.under76 Tryd.size3 rfl rfl rfl (by decide)) ?_
  refine TO.rd rfl rfl (rd_load (v := .int _ _) Tryd.one3 rfl (Has.own 4 rfl) rfl) ?_
  refine TO.rd rfl rfl (rd_ixa 2 Tryd.under76 Tryd.size3 rfl rfl rfl (by decide)) ?_
  refine TO.rd rfl rfl (rd_load (v := .int _ _) Tryd.one3 rfl (Has.own 4 rfl) rfl) ?_
  refine TO.fn Tryd.enters37 (c_ref15_narrowed _ _ _ _ (by omega) (by omega) (by omega) (by omega) (by omega) (by omega) (by omega)) rfl Reads0 ?_
  refine TO.rd rfl rfl (rd_move (v := .tuple _) rfl) ?_
  refine TO.rd rfl rfl (rd_extract (v := .int _ _) (vs := _) rfl rfl) ?_
  refine TO.rd rfl rfl (rd_extract (v := .int _ _) (vs := _) rfl rfl) ?_
  refine TO.rd rfl rfl (rd_fieldAddr Tryd.field28_0 rfl) ?_
  refine TO.front5 ?_
  refine TO.store0 (cells' := #[.int _ _, .int _ _]) Tryd.size3 rfl (v := .int _ _) rfl rfl rfl (Nat.le_of_ble_eq_true rfl) rfl ?_
  refine TO.rd rfl rfl (rd_fieldAddr Tryd.field28_1 rfl) ?_
  refine TO.store0 (cells' := #[.int _ _, .int _ _]) Tryd.size3 rfl (v := .int _ _) rfl rfl rfl (Nat.le_of_ble_eq_true rfl) rfl ?_
  refine TO.nil ?_
  refine TQ.then_normal ?_
  refine T.region ?_
  refine TO.rd rfl rfl (rd_fieldAddr Tryd.field29_0 rfl) ?_
  refine TO.rd rfl rfl (rd_load (v := .int _ _) Tryd.one3 rfl (Has.own 6 rfl) rfl) ?_
  refine TO.rd rfl rfl (rd_fieldAddr Tryd.field29_1 rfl) ?_
  refine TO.rd rfl rfl (rd_load (v := .int _ _) Tryd.one3 rfl (Has.own 6 rfl) rfl) ?_
  refine TO.rd rfl rfl (rd_ixa 3 Tryd.under76 Tryd.size3 rfl rfl rfl (by decide)) ?_
  refine TO.rd rfl rfl (rd_load (v := .int _ _) Tryd.one3 rfl (Has.own 5 rfl) rfl) ?_
  refine TO.rd rfl rfl (rd_ixa 4 Tryd.under76 Tryd.size3 rfl rfl rfl (by decide)) ?_
  refine TO.rd rfl rfl (rd_load (v := .int _ _) Tryd.one3 rfl (Has.own 5 rfl) rfl) ?_
  refine TO.fn Tryd.enters37 (c_ref15_narrowed _ _ _ _ (by omega) (by omega) (by omega) (by omega) (by omega) (by omega) (by omega)) rfl Reads0 ?_
  refine TO.rd rfl rfl (rd_move (v := .tuple _) rfl) ?_
  refine TO.rd rfl rfl (rd_extract (v := .int _ _) (vs := _) rfl rfl) ?_
  refine TO.rd rfl rfl (rd_extract (v := .int _ _) (vs := _) rfl rfl) ?_
  refine TO.rd rfl rfl (rd_fieldAddr Tryd.field29_0 rfl) ?_
  refine TO.front6 ?_
  refine TO.store0 (cells' := #[.int _ _, .int _ _]) Tryd.size3 rfl (v := .int _ _) rfl rfl rfl (Nat.le_of_ble_eq_true rfl) rfl ?_
  refine TO.rd rfl rfl (rd_fieldAddr Tryd.field29_1 rfl) ?_
  refine TO.store0 (cells' := #[.int _ _, .int _ _]) Tryd.size3 rfl (v := .int _ _) rfl rfl rfl (Nat.le_of_ble_eq_true rfl) rfl ?_
  refine TO.nil ?_
  refine TQ.block_normal ?_
  refine TQ.then_normal ?_
  refine T.region ?_
  refine TO.rd rfl rfl (rd_move (v := .int _ _) rfl) ?_
  refine TO.rd rfl rfl (rd_add rfl rfl (w64 (by omega) (by omega))) ?_
  refine TO.rd rfl rfl (rd_assign (v := .int _ _) rfl) ?_
  refine TO.nil ?_
  refine TQ.againk (A16, c17, k + 1, mstep m (u.chain[k]'hkl)) ?_ ?_ (And.intro (rfl) (And.intro (rfl) (And.intro (rfl) (trivial)))) (And.intro (rfl) (And.intro (rfl) (And.intro (rfl) (And.intro (rfl) (And.intro (rfl) (trivial)))))) (fun _ _ h => h.sel (js := [1, 0, 2, 7, 8, 9]) (by decide))
  · exact ⟨by rw [mrun_succ hkl, ← hm], mstep_ok hok' _, by dsimp only; omega, by dsimp only; omega, by simp only [mstep, List.length_append, hml]; rfl⟩
  · first | omega | (dsimp only; omega)
end Go.Proofs
end
section
/- Facts on the types and functions that the walks of this seat use. Written by a program of this session. -/
set_option linter.unusedVariables false
set_option linter.unusedSimpArgs false
set_option maxRecDepth 100000
set_option maxHeartbeats 800000
namespace Go.Proofs
open Go.TL
attribute [local irreducible] Go.TL.T Go.TL.TO Go.TL.TQ
end Go.Proofs
end
section
/- Walks: what functions of the program do, by contract. Written by a program of this session. -/
set_option linter.unusedVariables false
set_option linter.unusedSimpArgs false
set_option maxRecDepth 100000
set_option maxHeartbeats 800000
namespace Go.Proofs
open Go.TL
attribute [local irreducible] Go.TL.T Go.TL.TO Go.TL.TQ
/- dialtone/dialtoneref15.BentWish -/
theorem c_ref15_BentWish (w : Wish) (how n : Int) (hr0 : 0 ≤ w.rhi) (hr1 : w.rhi ≤ 1000000000000) (how0 : -9223372036854775808 ≤ how) (how1 : how ≤ 9223372036854775807) : Cv Tryd.prog 24 #[wishV w, .int .i64 how, .int .i64 n] [] (.tuple #[wishV (bendW w how n), .bool (!(decide (bendW w how n = w)))]) := by
  have q1 := pickN_lo (c := how) (n := 9) (by decide)
  have q2 := pickN_hi (c := how) (n := 9) (by decide)
  refine Ctr.intro Tryd.func24 rfl Tryd.ntmps24 (Nat.le_of_ble_eq_true rfl) fun S0 w0 => ?_
  refine T.seq ?_
  refine T.region ?_
  refine TO.box (v := .agg #[.int _ _, .int _ _, .int _ _, .int _ _, .int _ _, .int _ _, .int _ _, .int _ _, .string _]) rfl (fun b1 => ?_)
  refine TO.alloc Tryd.zero31 (fun b2 => ?_)
  refine TO.rd rfl rfl (rd_assign (v := .bool _) rfl) ?_
  refine TO.nil ?_
  refine TQ.then_normal ?_
  refine T.seq ?_
  refine T.region ?_
  refine TO.rd rfl rfl (rd_load_agg (cs := #[.int _ _, .int _ _, .int _ _, .int _ _, .int _ _, .int _ _, .int _ _, .int _ _, .string _]) Tryd.agg31 rfl (Has.own 1 rfl) rfl rfl) ?_
  refine TO.alloc Tryd.zero31 (fun b3 => ?_)
  refine TO.store0 (cells' := #[.int _ _, .int _ _, .int _ _, .int _ _, .int _ _, .int _ _, .int _ _, .int _ _, .string _]) Tryd.size31 rfl (v := .agg #[.int _ _, .int _ _, .int _ _, .int _ _, .int _ _, .int _ _, .int _ _, .int _ _, .string _]) rfl rfl rfl (Nat.le_of_ble_eq_true rfl) rfl ?_
  refine TO.nil ?_
  refine TQ.then_normal ?_
  refine T.seq ?_
  refine T.seq ?_
  refine T.region ?_
  refine TO.rd rfl rfl (rd_move (v := .int _ _) rfl) ?_
  refine TO.fn Tryd.enters35 (c_ref15_pick _ _ (by omega) (by omega) (by omega) (by omega)) rfl Reads0 ?_
  refine TO.nil ?_
  refine TQ.then_normal ?_
  refine T.block ?_
  refine T.seq ?_
  refine T.region ?_
  refine TO.rd rfl rfl (rd_eql rfl rfl) ?_
  refine TO.rd rfl rfl (rd_assign (v := .bool _) rfl) ?_
  refine TO.nil ?_
  refine TQ.then_normal ?_
  refine T.cond rfl (fun h4 => ?_) (fun h4 => ?_)
  · try simp only [decide_eq_true_eq, decide_eq_false_iff_not, Bool.not_eq_true', Bool.not_eq_false', Bool.not_eq_eq_eq_not, Bool.not_true, Bool.not_false, beq_iff_eq, beq_eq_false_iff_ne, bne_iff_ne, bne_eq_false_iff_eq, ne_eq, Int.not_lt, Int.not_le, Decidable.not_not] at h4
    refine T.region ?_
    refine TO.rd rfl rfl (rd_move (v := .int _ _) rfl) ?_
    refine TO.rd rfl rfl (rd_fieldAddr Tryd.field31_0 rfl) ?_
    refine TO.store0 (cells' := #[.int _ _, .int _ _, .int _ _, .int _ _, .int _ _, .int _ _, .int _ _, .int _ _, .string _]) Tryd.size3 rfl (v := .int _ _) rfl rfl rfl (Nat.le_of_ble_eq_true rfl) rfl ?_
    refine TO.nil ?_
    refine TQ.block_normal ?_
    refine TQ.then_normal ?_
    refine T.seq ?_
    refine T.front1 ?_
    refine T.drawo Tryd.mixes 5 [(54, 0), (55, 1), (56, 2), (57, 3)] [0, 0, 0, 6, 1, 31] [] 4 (by kernel_rfl) ?_
    refine DX.rd rfl rfl rfl (fun _ _ => rd_load_agg (cs := #[.int _ _, .int _ _, .int _ _, .int _ _, .int _ _, .int _ _, .int _ _, .int _ _, .string _]) Tryd.agg31 rfl (Has.own 0 rfl) rfl rfl) ?_
    refine DX.rd rfl rfl rfl (fun _ _ => rd_load_agg (cs := #[.int _ _, .int _ _, .int _ _, .int _ _, .int _ _, .int _ _, .int _ _, .int _ _, .string _]) Tryd.agg31 rfl (Has.own 0 rfl) rfl rfl) ?_
    refine DX.rd rfl rfl rfl (fun _ _ => rd_load_agg (cs := #[.int _ _, .int _ _, .int _ _, .int _ _, .int _ _, .int _ _, .int _ _, .int _ _, .string _]) Tryd.agg31 rfl (Has.own 1 rfl) rfl rfl) ?_
    refine DX.rd rfl rfl rfl (fun _ _ => rd_new Tryd.eqty (p := ⟨n, w.holder, w.rlo, w.rhi, w.carrier, w.serial, w.slo, w.shi, w.sig⟩) (q := w) rfl rfl) ?_
    refine DX.sto (v := .agg #[.int _ _, .int _ _, .int _ _, .int _ _, .int _ _, .int _ _, .int _ _, .int _ _, .string _]) (cells' := #[.int _ _, .int _ _, .int _ _, .int _ _, .int _ _, .int _ _, .int _ _, .int _ _, .string _]) rfl rfl Tryd.size31 (fun _ _ => rfl) (fun _ _ => rfl) rfl rfl (Nat.le_of_ble_eq_true rfl) rfl ?_
    refine DX.done [] rfl rfl (by decide) rfl (fun gh5 => ?_)
    refine TO.rd rfl rfl (rd_assign (v := .bool _) rfl) ?_
    refine TO.nil ?_
    refine TQ.then_normal ?_
    refine T.ret ?_
    refine TQ.value ?_ (res2 Tryd.results24 (Res.cells (cs := #[.int _ _, .int _ _, .int _ _, .int _ _, .int _ _, .int _ _, .int _ _, .int _ _, .string _]) Tryd.agg31 rfl (Has.own 0 rfl) rfl rfl) (Res.tmp (v := .bool _) rfl)) _ (.inl rfl)
    have hb : bendW w how n = ⟨n, w.holder, w.rlo, w.rhi, w.carrier, w.serial, w.slo, w.shi, w.sig⟩ := by rw [bendW, if_pos (by omega)]
    rw [hb]; rfl
  try simp only [decide_eq_true_eq, decide_eq_false_iff_not, Bool.not_eq_true', Bool.not_eq_false', Bool.not_eq_eq_eq_not, Bool.not_true, Bool.not_false, beq_iff_eq, beq_eq_false_iff_ne, bne_iff_ne, bne_eq_false_iff_eq, ne_eq, Int.not_lt, Int.not_le, Decidable.not_not] at h4
  refine T.seq ?_
  refine T.region ?_
  refine TO.rd rfl rfl (rd_eql rfl rfl) ?_
  refine TO.rd rfl rfl (rd_assign (v := .bool _) rfl) ?_
  refine TO.nil ?_
  refine TQ.then_normal ?_
  refine T.cond rfl (fun h6 => ?_) (fun h6 => ?_)
  · try simp only [decide_eq_true_eq, decide_eq_false_iff_not, Bool.not_eq_true', Bool.not_eq_false', Bool.not_eq_eq_eq_not, Bool.not_true, Bool.not_false, beq_iff_eq, beq_eq_false_iff_ne, bne_iff_ne, bne_eq_false_iff_eq, ne_eq, Int.not_lt, Int.not_le, Decidable.not_not] at h6
    refine T.region ?_
    refine TO.rd rfl rfl (rd_move (v := .int _ _) rfl) ?_
    refine TO.rd rfl rfl (rd_fieldAddr Tryd.field31_1 rfl) ?_
    refine TO.store0 (cells' := #[.int _ _, .int _ _, .int _ _, .int _ _, .int _ _, .int _ _, .int _ _, .int _ _, .string _]) Tryd.size3 rfl (v := .int _ _) rfl rfl rfl (Nat.le_of_ble_eq_true rfl) rfl ?_
    refine TO.nil ?_
    refine TQ.block_normal ?_
    refine TQ.then_normal ?_
    refine T.seq ?_
    refine T.front1 ?_
    refine T.drawo Tryd.mixes 5 [(54, 0), (55, 1), (56, 2), (57, 3)] [0, 0, 0, 6, 1, 31] [] 4 (by kernel_rfl) ?_
    refine DX.rd rfl rfl rfl (fun _ _ => rd_load_agg (cs := #[.int _ _, .int _ _, .int _ _, .int _ _, .int _ _, .int _ _, .int _ _, .int _ _, .string _]) Tryd.agg31 rfl (Has.own 0 rfl) rfl rfl) ?_
    refine DX.rd rfl rfl rfl (fun _ _ => rd_load_agg (cs := #[.int _ _, .int _ _, .int _ _, .int _ _, .int _ _, .int _ _, .int _ _, .int _ _, .string _]) Tryd.agg31 rfl (Has.own 0 rfl) rfl rfl) ?_
    refine DX.rd rfl rfl rfl (fun _ _ => rd_load_agg (cs := #[.int _ _, .int _ _, .int _ _, .int _ _, .int _ _, .int _ _, .int _ _, .int _ _, .string _]) Tryd.agg31 rfl (Has.own 1 rfl) rfl rfl) ?_
    refine DX.rd rfl rfl rfl (fun _ _ => rd_new Tryd.eqty (p := ⟨w.signer, n, w.rlo, w.rhi, w.carrier, w.serial, w.slo, w.shi, w.sig⟩) (q := w) rfl rfl) ?_
    refine DX.sto (v := .agg #[.int _ _, .int _ _, .int _ _, .int _ _, .int _ _, .int _ _, .int _ _, .int _ _, .string _]) (cells' := #[.int _ _, .int _ _, .int _ _, .int _ _, .int _ _, .int _ _, .int _ _, .int _ _, .string _]) rfl rfl Tryd.size31 (fun _ _ => rfl) (fun _ _ => rfl) rfl rfl (Nat.le_of_ble_eq_true rfl) rfl ?_
    refine DX.done [] rfl rfl (by decide) rfl (fun gh7 => ?_)
    refine TO.rd rfl rfl (rd_assign (v := .bool _) rfl) ?_
    refine TO.nil ?_
    refine TQ.then_normal ?_
    refine T.ret ?_
    refine TQ.value ?_ (res2 Tryd.results24 (Res.cells (cs := #[.int _ _, .int _ _, .int _ _, .int _ _, .int _ _, .int _ _, .int _ _, .int _ _, .string _]) Tryd.agg31 rfl (Has.own 0 rfl) rfl rfl) (Res.tmp (v := .bool _) rfl)) _ (.inl rfl)
    have hb : bendW w how n = ⟨w.signer, n, w.rlo, w.rhi, w.carrier, w.serial, w.slo, w.shi, w.sig⟩ := by rw [bendW, if_neg (by omega), if_pos (by omega)]
    rw [hb]; rfl
  try simp only [decide_eq_true_eq, decide_eq_false_iff_not, Bool.not_eq_true', Bool.not_eq_false', Bool.not_eq_eq_eq_not, Bool.not_true, Bool.not_false, beq_iff_eq, beq_eq_false_iff_ne, bne_iff_ne, bne_eq_false_iff_eq, ne_eq, Int.not_lt, Int.not_le, Decidable.not_not] at h6
  refine T.seq ?_
  refine T.region ?_
  refine TO.rd rfl rfl (rd_eql rfl rfl) ?_
  refine TO.rd rfl rfl (rd_assign (v := .bool _) rfl) ?_
  refine TO.nil ?_
  refine TQ.then_normal ?_
  refine T.cond rfl (fun h8 => ?_) (fun h8 => ?_)
  · try simp only [decide_eq_true_eq, decide_eq_false_iff_not, Bool.not_eq_true', Bool.not_eq_false', Bool.not_eq_eq_eq_not, Bool.not_true, Bool.not_false, beq_iff_eq, beq_eq_false_iff_ne, bne_iff_ne, bne_eq_false_iff_eq, ne_eq, Int.not_lt, Int.not_le, Decidable.not_not] at h8
    refine T.region ?_
    refine TO.rd rfl rfl (rd_move (v := .int _ _) rfl) ?_
    refine TO.rd rfl rfl (rd_fieldAddr Tryd.field31_2 rfl) ?_
    refine TO.rd rfl rfl (rd_fieldAddr Tryd.field28_0 rfl) ?_
    refine TO.store0 (cells' := #[.int _ _, .int _ _, .int _ _, .int _ _, .int _ _, .int _ _, .int _ _, .int _ _, .string _]) Tryd.size3 rfl (v := .int _ _) rfl rfl rfl (Nat.le_of_ble_eq_true rfl) rfl ?_
    refine TO.nil ?_
    refine TQ.block_normal ?_
    refine TQ.then_normal ?_
    refine T.seq ?_
    refine T.front1 ?_
    refine T.drawo Tryd.mixes 5 [(54, 0), (55, 1), (56, 2), (57, 3)] [0, 0, 0, 6, 1, 31] [] 4 (by kernel_rfl) ?_
    refine DX.rd rfl rfl rfl (fun _ _ => rd_load_agg (cs := #[.int _ _, .int _ _, .int _ _, .int _ _, .int _ _, .int _ _, .int _ _, .int _ _, .string _]) Tryd.agg31 rfl (Has.own 0 rfl) rfl rfl) ?_
    refine DX.rd rfl rfl rfl (fun _ _ => rd_load_agg (cs := #[.int _ _, .int _ _, .int _ _, .int _ _, .int _ _, .int _ _, .int _ _, .int _ _, .string _]) Tryd.agg31 rfl (Has.own 0 rfl) rfl rfl) ?_
    refine DX.rd rfl rfl rfl (fun _ _ => rd_load_agg (cs := #[.int _ _, .int _ _, .int _ _, .int _ _, .int _ _, .int _ _, .int _ _, .int _ _, .string _]) Tryd.agg31 rfl (Has.own 1 rfl) rfl rfl) ?_
    refine DX.rd rfl rfl rfl (fun _ _ => rd_new Tryd.eqty (p := ⟨w.signer, w.holder, n, w.rhi, w.carrier, w.serial, w.slo, w.shi, w.sig⟩) (q := w) rfl rfl) ?_
    refine DX.sto (v := .agg #[.int _ _, .int _ _, .int _ _, .int _ _, .int _ _, .int _ _, .int _ _, .int _ _, .string _]) (cells' := #[.int _ _, .int _ _, .int _ _, .int _ _, .int _ _, .int _ _, .int _ _, .int _ _, .string _]) rfl rfl Tryd.size31 (fun _ _ => rfl) (fun _ _ => rfl) rfl rfl (Nat.le_of_ble_eq_true rfl) rfl ?_
    refine DX.done [] rfl rfl (by decide) rfl (fun gh9 => ?_)
    refine TO.rd rfl rfl (rd_assign (v := .bool _) rfl) ?_
    refine TO.nil ?_
    refine TQ.then_normal ?_
    refine T.ret ?_
    refine TQ.value ?_ (res2 Tryd.results24 (Res.cells (cs := #[.int _ _, .int _ _, .int _ _, .int _ _, .int _ _, .int _ _, .int _ _, .int _ _, .string _]) Tryd.agg31 rfl (Has.own 0 rfl) rfl rfl) (Res.tmp (v := .bool _) rfl)) _ (.inl rfl)
    have hb : bendW w how n = ⟨w.signer, w.holder, n, w.rhi, w.carrier, w.serial, w.slo, w.shi, w.sig⟩ := by rw [bendW, if_neg (by omega), if_neg (by omega), if_pos (by omega)]
    rw [hb]; rfl
  try simp only [decide_eq_true_eq, decide_eq_false_iff_not, Bool.not_eq_true', Bool.not_eq_false', Bool.not_eq_eq_eq_not, Bool.not_true, Bool.not_false, beq_iff_eq, beq_eq_false_iff_ne, bne_iff_ne, bne_eq_false_iff_eq, ne_eq, Int.not_lt, Int.not_le, Decidable.not_not] at h8
  refine T.seq ?_
  refine T.region ?_
  refine TO.rd rfl rfl (rd_eql rfl rfl) ?_
  refine TO.rd rfl rfl (rd_assign (v := .bool _) rfl) ?_
  refine TO.nil ?_
  refine TQ.then_normal ?_
  refine T.cond rfl (fun h10 => ?_) (fun h10 => ?_)
  · try simp only [decide_eq_true_eq, decide_eq_false_iff_not, Bool.not_eq_true', Bool.not_eq_false', Bool.not_eq_eq_eq_not, Bool.not_true, Bool.not_false, beq_iff_eq, beq_eq_false_iff_ne, bne_iff_ne, bne_eq_false_iff_eq, ne_eq, Int.not_lt, Int.not_le, Decidable.not_not] at h10
    refine T.region ?_
    refine TO.rd rfl rfl (rd_move (v := .int _ _) rfl) ?_
    refine TO.rd rfl rfl (rd_fieldAddr Tryd.field31_2 rfl) ?_
    refine TO.rd rfl rfl (rd_fieldAddr Tryd.field28_1 rfl) ?_
    refine TO.store0 (cells' := #[.int _ _, .int _ _, .int _ _, .int _ _, .int _ _, .int _ _, .int _ _, .int _ _, .string _]) Tryd.size3 rfl (v := .int _ _) rfl rfl rfl (Nat.le_of_ble_eq_true rfl) rfl ?_
    refine TO.nil ?_
    refine TQ.block_normal ?_
    refine TQ.then_normal ?_
    refine T.seq ?_
    refine T.front1 ?_
    refine T.drawo Tryd.mixes 5 [(54, 0), (55, 1), (56, 2), (57, 3)] [0, 0, 0, 6, 1, 31] [] 4 (by kernel_rfl) ?_
    refine DX.rd rfl rfl rfl (fun _ _ => rd_load_agg (cs := #[.int _ _, .int _ _, .int _ _, .int _ _, .int _ _, .int _ _, .int _ _, .int _ _, .string _]) Tryd.agg31 rfl (Has.own 0 rfl) rfl rfl) ?_
    refine DX.rd rfl rfl rfl (fun _ _ => rd_load_agg (cs := #[.int _ _, .int _ _, .int _ _, .int _ _, .int _ _, .int _ _, .int _ _, .int _ _, .string _]) Tryd.agg31 rfl (Has.own 0 rfl) rfl rfl) ?_
    refine DX.rd rfl rfl rfl (fun _ _ => rd_load_agg (cs := #[.int _ _, .int _ _, .int _ _, .int _ _, .int _ _, .int _ _, .int _ _, .int _ _, .string _]) Tryd.agg31 rfl (Has.own 1 rfl) rfl rfl) ?_
    refine DX.rd rfl rfl rfl (fun _ _ => rd_new Tryd.eqty (p := ⟨w.signer, w.holder, w.rlo, n, w.carrier, w.serial, w.slo, w.shi, w.sig⟩) (q := w) rfl rfl) ?_
    refine DX.sto (v := .agg #[.int _ _, .int _ _, .int _ _, .int _ _, .int _ _, .int _ _, .int _ _, .int _ _, .string _]) (cells' := #[.int _ _, .int _ _, .int _ _, .int _ _, .int _ _, .int _ _, .int _ _, .int _ _, .string _]) rfl rfl Tryd.size31 (fun _ _ => rfl) (fun _ _ => rfl) rfl rfl (Nat.le_of_ble_eq_true rfl) rfl ?_
    refine DX.done [] rfl rfl (by decide) rfl (fun gh11 => ?_)
    refine TO.rd rfl rfl (rd_assign (v := .bool _) rfl) ?_
    refine TO.nil ?_
    refine TQ.then_normal ?_
    refine T.ret ?_
    refine TQ.value ?_ (res2 Tryd.results24 (Res.cells (cs := #[.int _ _, .int _ _, .int _ _, .int _ _, .int _ _, .int _ _, .int _ _, .int _ _, .string _]) Tryd.agg31 rfl (Has.own 0 rfl) rfl rfl) (Res.tmp (v := .bool _) rfl)) _ (.inl rfl)
    have hb : bendW w how n = ⟨w.signer, w.holder, w.rlo, n, w.carrier, w.serial, w.slo, w.shi, w.sig⟩ := by rw [bendW, if_neg (by omega), if_neg (by omega), if_neg (by omega), if_pos (by omega)]
    rw [hb]; rfl
  try simp only [decide_eq_true_eq, decide_eq_false_iff_not, Bool.not_eq_true', Bool.not_eq_false', Bool.not_eq_eq_eq_not, Bool.not_true, Bool.not_false, beq_iff_eq, beq_eq_false_iff_ne, bne_iff_ne, bne_eq_false_iff_eq, ne_eq, Int.not_lt, Int.not_le, Decidable.not_not] at h10
  refine T.seq ?_
  refine T.region ?_
  refine TO.rd rfl rfl (rd_eql rfl rfl) ?_
  refine TO.rd rfl rfl (rd_assign (v := .bool _) rfl) ?_
  refine TO.nil ?_
  refine TQ.then_normal ?_
  refine T.cond rfl (fun h12 => ?_) (fun h12 => ?_)
  · try simp only [decide_eq_true_eq, decide_eq_false_iff_not, Bool.not_eq_true', Bool.not_eq_false', Bool.not_eq_eq_eq_not, Bool.not_true, Bool.not_false, beq_iff_eq, beq_eq_false_iff_ne, bne_iff_ne, bne_eq_false_iff_eq, ne_eq, Int.not_lt, Int.not_le, Decidable.not_not] at h12
    refine T.region ?_
    refine TO.rd rfl rfl (rd_move (v := .int _ _) rfl) ?_
    refine TO.rd rfl rfl (rd_fieldAddr Tryd.field31_3 rfl) ?_
    refine TO.store0 (cells' := #[.int _ _, .int _ _, .int _ _, .int _ _, .int _ _, .int _ _, .int _ _, .int _ _, .string _]) Tryd.size3 rfl (v := .int _ _) rfl rfl rfl (Nat.le_of_ble_eq_true rfl) rfl ?_
    refine TO.nil ?_
    refine TQ.block_normal ?_
    refine TQ.then_normal ?_
    refine T.seq ?_
    refine T.front1 ?_
    refine T.drawo Tryd.mixes 5 [(54, 0), (55, 1), (56, 2), (57, 3)] [0, 0, 0, 6, 1, 31] [] 4 (by kernel_rfl) ?_
    refine DX.rd rfl rfl rfl (fun _ _ => rd_load_agg (cs := #[.int _ _, .int _ _, .int _ _, .int _ _, .int _ _, .int _ _, .int _ _, .int _ _, .string _]) Tryd.agg31 rfl (Has.own 0 rfl) rfl rfl) ?_
    refine DX.rd rfl rfl rfl (fun _ _ => rd_load_agg (cs := #[.int _ _, .int _ _, .int _ _, .int _ _, .int _ _, .int _ _, .int _ _, .int _ _, .string _]) Tryd.agg31 rfl (Has.own 0 rfl) rfl rfl) ?_
    refine DX.rd rfl rfl rfl (fun _ _ => rd_load_agg (cs := #[.int _ _, .int _ _, .int _ _, .int _ _, .int _ _, .int _ _, .int _ _, .int _ _, .string _]) Tryd.agg31 rfl (Has.own 1 rfl) rfl rfl) ?_
    refine DX.rd rfl rfl rfl (fun _ _ => rd_new Tryd.eqty (p := ⟨w.signer, w.holder, w.rlo, w.rhi, n, w.serial, w.slo, w.shi, w.sig⟩) (q := w) rfl rfl) ?_
    refine DX.sto (v := .agg #[.int _ _, .int _ _, .int _ _, .int _ _, .int _ _, .int _ _, .int _ _, .int _ _, .string _]) (cells' := #[.int _ _, .int _ _, .int _ _, .int _ _, .int _ _, .int _ _, .int _ _, .int _ _, .string _]) rfl rfl Tryd.size31 (fun _ _ => rfl) (fun _ _ => rfl) rfl rfl (Nat.le_of_ble_eq_true rfl) rfl ?_
    refine DX.done [] rfl rfl (by decide) rfl (fun gh13 => ?_)
    refine TO.rd rfl rfl (rd_assign (v := .bool _) rfl) ?_
    refine TO.nil ?_
    refine TQ.then_normal ?_
    refine T.ret ?_
    refine TQ.value ?_ (res2 Tryd.results24 (Res.cells (cs := #[.int _ _, .int _ _, .int _ _, .int _ _, .int _ _, .int _ _, .int _ _, .int _ _, .string _]) Tryd.agg31 rfl (Has.own 0 rfl) rfl rfl) (Res.tmp (v := .bool _) rfl)) _ (.inl rfl)
    have hb : bendW w how n = ⟨w.signer, w.holder, w.rlo, w.rhi, n, w.serial, w.slo, w.shi, w.sig⟩ := by rw [bendW, if_neg (by omega), if_neg (by omega), if_neg (by omega), if_neg (by omega), if_pos (by omega)]
    rw [hb]; rfl
  try simp only [decide_eq_true_eq, decide_eq_false_iff_not, Bool.not_eq_true', Bool.not_eq_false', Bool.not_eq_eq_eq_not, Bool.not_true, Bool.not_false, beq_iff_eq, beq_eq_false_iff_ne, bne_iff_ne, bne_eq_false_iff_eq, ne_eq, Int.not_lt, Int.not_le, Decidable.not_not] at h12
  refine T.seq ?_
  refine T.region ?_
  refine TO.rd rfl rfl (rd_eql rfl rfl) ?_
  refine TO.rd rfl rfl (rd_assign (v := .bool _) rfl) ?_
  refine TO.nil ?_
  refine TQ.then_normal ?_
  refine T.cond rfl (fun h14 => ?_) (fun h14 => ?_)
  · try simp only [decide_eq_true_eq, decide_eq_false_iff_not, Bool.not_eq_true', Bool.not_eq_false', Bool.not_eq_eq_eq_not, Bool.not_true, Bool.not_false, beq_iff_eq, beq_eq_false_iff_ne, bne_iff_ne, bne_eq_false_iff_eq, ne_eq, Int.not_lt, Int.not_le, Decidable.not_not] at h14
    refine T.region ?_
    refine TO.rd rfl rfl (rd_move (v := .int _ _) rfl) ?_
    refine TO.rd rfl rfl (rd_fieldAddr Tryd.field31_4 rfl) ?_
    refine TO.store0 (cells' := #[.int _ _, .int _ _, .int _ _, .int _ _, .int _ _, .int _ _, .int _ _, .int _ _, .string _]) Tryd.size3 rfl (v := .int _ _) rfl rfl rfl (Nat.le_of_ble_eq_true rfl) rfl ?_
    refine TO.nil ?_
    refine TQ.block_normal ?_
    refine TQ.then_normal ?_
    refine T.seq ?_
    refine T.front1 ?_
    refine T.drawo Tryd.mixes 5 [(54, 0), (55, 1), (56, 2), (57, 3)] [0, 0, 0, 6, 1, 31] [] 4 (by kernel_rfl) ?_
    refine DX.rd rfl rfl rfl (fun _ _ => rd_load_agg (cs := #[.int _ _, .int _ _, .int _ _, .int _ _, .int _ _, .int _ _, .int _ _, .int _ _, .string _]) Tryd.agg31 rfl (Has.own 0 rfl) rfl rfl) ?_
    refine DX.rd rfl rfl rfl (fun _ _ => rd_load_agg (cs := #[.int _ _, .int _ _, .int _ _, .int _ _, .int _ _, .int _ _, .int _ _, .int _ _, .string _]) Tryd.agg31 rfl (Has.own 0 rfl) rfl rfl) ?_
    refine DX.rd rfl rfl rfl (fun _ _ => rd_load_agg (cs := #[.int _ _, .int _ _, .int _ _, .int _ _, .int _ _, .int _ _, .int _ _, .int _ _, .string _]) Tryd.agg31 rfl (Has.own 1 rfl) rfl rfl) ?_
    refine DX.rd rfl rfl rfl (fun _ _ => rd_new Tryd.eqty (p := ⟨w.signer, w.holder, w.rlo, w.rhi, w.carrier, n, w.slo, w.shi, w.sig⟩) (q := w) rfl rfl) ?_
    refine DX.sto (v := .agg #[.int _ _, .int _ _, .int _ _, .int _ _, .int _ _, .int _ _, .int _ _, .int _ _, .string _]) (cells' := #[.int _ _, .int _ _, .int _ _, .int _ _, .int _ _, .int _ _, .int _ _, .int _ _, .string _]) rfl rfl Tryd.size31 (fun _ _ => rfl) (fun _ _ => rfl) rfl rfl (Nat.le_of_ble_eq_true rfl) rfl ?_
    refine DX.done [] rfl rfl (by decide) rfl (fun gh15 => ?_)
    refine TO.rd rfl rfl (rd_assign (v := .bool _) rfl) ?_
    refine TO.nil ?_
    refine TQ.then_normal ?_
    refine T.ret ?_
    refine TQ.value ?_ (res2 Tryd.results24 (Res.cells (cs := #[.int _ _, .int _ _, .int _ _, .int _ _, .int _ _, .int _ _, .int _ _, .int _ _, .string _]) Tryd.agg31 rfl (Has.own 0 rfl) rfl rfl) (Res.tmp (v := .bool _) rfl)) _ (.inl rfl)
    have hb : bendW w how n = ⟨w.signer, w.holder, w.rlo, w.rhi, w.carrier, n, w.slo, w.shi, w.sig⟩ := by rw [bendW, if_neg (by omega), if_neg (by omega), if_neg (by omega), if_neg (by omega), if_neg (by omega), if_pos (by omega)]
    rw [hb]; rfl
  try simp only [decide_eq_true_eq, decide_eq_false_iff_not, Bool.not_eq_true', Bool.not_eq_false', Bool.not_eq_eq_eq_not, Bool.not_true, Bool.not_false, beq_iff_eq, beq_eq_false_iff_ne, bne_iff_ne, bne_eq_false_iff_eq, ne_eq, Int.not_lt, Int.not_le, Decidable.not_not] at h14
  refine T.seq ?_
  refine T.region ?_
  refine TO.rd rfl rfl (rd_eql rfl rfl) ?_
  refine TO.rd rfl rfl (rd_assign (v := .bool _) rfl) ?_
  refine TO.nil ?_
  refine TQ.then_normal ?_
  refine T.cond rfl (fun h16 => ?_) (fun h16 => ?_)
  · try simp only [decide_eq_true_eq, decide_eq_false_iff_not, Bool.not_eq_true', Bool.not_eq_false', Bool.not_eq_eq_eq_not, Bool.not_true, Bool.not_false, beq_iff_eq, beq_eq_false_iff_ne, bne_iff_ne, bne_eq_false_iff_eq, ne_eq, Int.not_lt, Int.not_le, Decidable.not_not] at h16
    refine T.region ?_
    refine TO.rd rfl rfl (rd_move (v := .int _ _) rfl) ?_
    refine TO.rd rfl rfl (rd_fieldAddr Tryd.field31_5 rfl) ?_
    refine TO.rd rfl rfl (rd_fieldAddr Tryd.field29_0 rfl) ?_
    refine TO.store0 (cells' := #[.int _ _, .int _ _, .int _ _, .int _ _, .int _ _, .int _ _, .int _ _, .int _ _, .string _]) Tryd.size3 rfl (v := .int _ _) rfl rfl rfl (Nat.le_of_ble_eq_true rfl) rfl ?_
    refine TO.nil ?_
    refine TQ.block_normal ?_
    refine TQ.then_normal ?_
    refine T.seq ?_
    refine T.front1 ?_
    refine T.drawo Tryd.mixes 5 [(54, 0), (55, 1), (56, 2), (57, 3)] [0, 0, 0, 6, 1, 31] [] 4 (by kernel_rfl) ?_
    refine DX.rd rfl rfl rfl (fun _ _ => rd_load_agg (cs := #[.int _ _, .int _ _, .int _ _, .int _ _, .int _ _, .int _ _, .int _ _, .int _ _, .string _]) Tryd.agg31 rfl (Has.own 0 rfl) rfl rfl) ?_
    refine DX.rd rfl rfl rfl (fun _ _ => rd_load_agg (cs := #[.int _ _, .int _ _, .int _ _, .int _ _, .int _ _, .int _ _, .int _ _, .int _ _, .string _]) Tryd.agg31 rfl (Has.own 0 rfl) rfl rfl) ?_
    refine DX.rd rfl rfl rfl (fun _ _ => rd_load_agg (cs := #[.int _ _, .int _ _, .int _ _, .int _ _, .int _ _, .int _ _, .int _ _, .int _ _, .string _]) Tryd.agg31 rfl (Has.own 1 rfl) rfl rfl) ?_
    refine DX.rd rfl rfl rfl (fun _ _ => rd_new Tryd.eqty (p := ⟨w.signer, w.holder, w.rlo, w.rhi, w.carrier, w.serial, n, w.shi, w.sig⟩) (q := w) rfl rfl) ?_
    refine DX.sto (v := .agg #[.int _ _, .int _ _, .int _ _, .int _ _, .int _ _, .int _ _, .int _ _, .int _ _, .string _]) (cells' := #[.int _ _, .int _ _, .int _ _, .int _ _, .int _ _, .int _ _, .int _ _, .int _ _, .string _]) rfl rfl Tryd.size31 (fun _ _ => rfl) (fun _ _ => rfl) rfl rfl (Nat.le_of_ble_eq_true rfl) rfl ?_
    refine DX.done [] rfl rfl (by decide) rfl (fun gh17 => ?_)
    refine TO.rd rfl rfl (rd_assign (v := .bool _) rfl) ?_
    refine TO.nil ?_
    refine TQ.then_normal ?_
    refine T.ret ?_
    refine TQ.value ?_ (res2 Tryd.results24 (Res.cells (cs := #[.int _ _, .int _ _, .int _ _, .int _ _, .int _ _, .int _ _, .int _ _, .int _ _, .string _]) Tryd.agg31 rfl (Has.own 0 rfl) rfl rfl) (Res.tmp (v := .bool _) rfl)) _ (.inl rfl)
    have hb : bendW w how n = ⟨w.signer, w.holder, w.rlo, w.rhi, w.carrier, w.serial, n, w.shi, w.sig⟩ := by rw [bendW, if_neg (by omega), if_neg (by omega), if_neg (by omega), if_neg (by omega), if_neg (by omega), if_neg (by omega), if_pos (by omega)]
    rw [hb]; rfl
  try simp only [decide_eq_true_eq, decide_eq_false_iff_not, Bool.not_eq_true', Bool.not_eq_false', Bool.not_eq_eq_eq_not, Bool.not_true, Bool.not_false, beq_iff_eq, beq_eq_false_iff_ne, bne_iff_ne, bne_eq_false_iff_eq, ne_eq, Int.not_lt, Int.not_le, Decidable.not_not] at h16
  refine T.seq ?_
  refine T.region ?_
  refine TO.rd rfl rfl (rd_eql rfl rfl) ?_
  refine TO.rd rfl rfl (rd_assign (v := .bool _) rfl) ?_
  refine TO.nil ?_
  refine TQ.then_normal ?_
  refine T.cond rfl (fun h18 => ?_) (fun h18 => ?_)
  · try simp only [decide_eq_true_eq, decide_eq_false_iff_not, Bool.not_eq_true', Bool.not_eq_false', Bool.not_eq_eq_eq_not, Bool.not_true, Bool.not_false, beq_iff_eq, beq_eq_false_iff_ne, bne_iff_ne, bne_eq_false_iff_eq, ne_eq, Int.not_lt, Int.not_le, Decidable.not_not] at h18
    refine T.region ?_
    refine TO.rd rfl rfl (rd_move (v := .int _ _) rfl) ?_
    refine TO.rd rfl rfl (rd_fieldAddr Tryd.field31_5 rfl) ?_
    refine TO.rd rfl rfl (rd_fieldAddr Tryd.field29_1 rfl) ?_
    refine TO.store0 (cells' := #[.int _ _, .int _ _, .int _ _, .int _ _, .int _ _, .int _ _, .int _ _, .int _ _, .string _]) Tryd.size3 rfl (v := .int _ _) rfl rfl rfl (Nat.le_of_ble_eq_true rfl) rfl ?_
    refine TO.nil ?_
    refine TQ.block_normal ?_
    refine TQ.then_normal ?_
    refine T.seq ?_
    refine T.front1 ?_
    refine T.drawo Tryd.mixes 5 [(54, 0), (55, 1), (56, 2), (57, 3)] [0, 0, 0, 6, 1, 31] [] 4 (by kernel_rfl) ?_
    refine DX.rd rfl rfl rfl (fun _ _ => rd_load_agg (cs := #[.int _ _, .int _ _, .int _ _, .int _ _, .int _ _, .int _ _, .int _ _, .int _ _, .string _]) Tryd.agg31 rfl (Has.own 0 rfl) rfl rfl) ?_
    refine DX.rd rfl rfl rfl (fun _ _ => rd_load_agg (cs := #[.int _ _, .int _ _, .int _ _, .int _ _, .int _ _, .int _ _, .int _ _, .int _ _, .string _]) Tryd.agg31 rfl (Has.own 0 rfl) rfl rfl) ?_
    refine DX.rd rfl rfl rfl (fun _ _ => rd_load_agg (cs := #[.int _ _, .int _ _, .int _ _, .int _ _, .int _ _, .int _ _, .int _ _, .int _ _, .string _]) Tryd.agg31 rfl (Has.own 1 rfl) rfl rfl) ?_
    refine DX.rd rfl rfl rfl (fun _ _ => rd_new Tryd.eqty (p := ⟨w.signer, w.holder, w.rlo, w.rhi, w.carrier, w.serial, w.slo, n, w.sig⟩) (q := w) rfl rfl) ?_
    refine DX.sto (v := .agg #[.int _ _, .int _ _, .int _ _, .int _ _, .int _ _, .int _ _, .int _ _, .int _ _, .string _]) (cells' := #[.int _ _, .int _ _, .int _ _, .int _ _, .int _ _, .int _ _, .int _ _, .int _ _, .string _]) rfl rfl Tryd.size31 (fun _ _ => rfl) (fun _ _ => rfl) rfl rfl (Nat.le_of_ble_eq_true rfl) rfl ?_
    refine DX.done [] rfl rfl (by decide) rfl (fun gh19 => ?_)
    refine TO.rd rfl rfl (rd_assign (v := .bool _) rfl) ?_
    refine TO.nil ?_
    refine TQ.then_normal ?_
    refine T.ret ?_
    refine TQ.value ?_ (res2 Tryd.results24 (Res.cells (cs := #[.int _ _, .int _ _, .int _ _, .int _ _, .int _ _, .int _ _, .int _ _, .int _ _, .string _]) Tryd.agg31 rfl (Has.own 0 rfl) rfl rfl) (Res.tmp (v := .bool _) rfl)) _ (.inl rfl)
    have hb : bendW w how n = ⟨w.signer, w.holder, w.rlo, w.rhi, w.carrier, w.serial, w.slo, n, w.sig⟩ := by rw [bendW, if_neg (by omega), if_neg (by omega), if_neg (by omega), if_neg (by omega), if_neg (by omega), if_neg (by omega), if_neg (by omega), if_pos (by omega)]
    rw [hb]; rfl
  try simp only [decide_eq_true_eq, decide_eq_false_iff_not, Bool.not_eq_true', Bool.not_eq_false', Bool.not_eq_eq_eq_not, Bool.not_true, Bool.not_false, beq_iff_eq, beq_eq_false_iff_ne, bne_iff_ne, bne_eq_false_iff_eq, ne_eq, Int.not_lt, Int.not_le, Decidable.not_not] at h18
  refine T.region ?_
  refine TO.rd rfl rfl (rd_fieldAddr Tryd.field31_2 rfl) ?_
  refine TO.rd rfl rfl (rd_fieldAddr Tryd.field28_1 rfl) ?_
  refine TO.rd rfl rfl (rd_load (v := .int _ _) Tryd.one3 rfl (Has.own 0 rfl) rfl) ?_
  refine TO.rd rfl rfl (rd_add rfl rfl (w64 (by omega) (by omega))) ?_
  refine TO.rd rfl rfl (rd_fieldAddr Tryd.field31_2 rfl) ?_
  refine TO.rd rfl rfl (rd_fieldAddr Tryd.field28_1 rfl) ?_
  refine TO.store0 (cells' := #[.int _ _, .int _ _, .int _ _, .int _ _, .int _ _, .int _ _, .int _ _, .int _ _, .string _]) Tryd.size3 rfl (v := .int _ _) rfl rfl rfl (Nat.le_of_ble_eq_true rfl) rfl ?_
  refine TO.nil ?_
  refine TQ.block_normal ?_
  refine TQ.then_normal ?_
  refine T.seq ?_
  refine T.front1 ?_
  refine T.drawo Tryd.mixes 5 [(54, 0), (55, 1), (56, 2), (57, 3)] [0, 0, 0, 6, 1, 31] [] 4 (by kernel_rfl) ?_
  refine DX.rd rfl rfl rfl (fun _ _ => rd_load_agg (cs := #[.int _ _, .int _ _, .int _ _, .int _ _, .int _ _, .int _ _, .int _ _, .int _ _, .string _]) Tryd.agg31 rfl (Has.own 0 rfl) rfl rfl) ?_
  refine DX.rd rfl rfl rfl (fun _ _ => rd_load_agg (cs := #[.int _ _, .int _ _, .int _ _, .int _ _, .int _ _, .int _ _, .int _ _, .int _ _, .string _]) Tryd.agg31 rfl (Has.own 0 rfl) rfl rfl) ?_
  refine DX.rd rfl rfl rfl (fun _ _ => rd_load_agg (cs := #[.int _ _, .int _ _, .int _ _, .int _ _, .int _ _, .int _ _, .int _ _, .int _ _, .string _]) Tryd.agg31 rfl (Has.own 1 rfl) rfl rfl) ?_
  refine DX.rd rfl rfl rfl (fun _ _ => rd_new Tryd.eqty (p := ⟨w.signer, w.holder, w.rlo, (w.rhi + 1), w.carrier, w.serial, w.slo, w.shi, w.sig⟩) (q := w) rfl rfl) ?_
  refine DX.sto (v := .agg #[.int _ _, .int _ _, .int _ _, .int _ _, .int _ _, .int _ _, .int _ _, .int _ _, .string _]) (cells' := #[.int _ _, .int _ _, .int _ _, .int _ _, .int _ _, .int _ _, .int _ _, .int _ _, .string _]) rfl rfl Tryd.size31 (fun _ _ => rfl) (fun _ _ => rfl) rfl rfl (Nat.le_of_ble_eq_true rfl) rfl ?_
  refine DX.done [] rfl rfl (by decide) rfl (fun gh20 => ?_)
  refine TO.rd rfl rfl (rd_assign (v := .bool _) rfl) ?_
  refine TO.nil ?_
  refine TQ.then_normal ?_
  refine T.ret ?_
  refine TQ.value ?_ (res2 Tryd.results24 (Res.cells (cs := #[.int _ _, .int _ _, .int _ _, .int _ _, .int _ _, .int _ _, .int _ _, .int _ _, .string _]) Tryd.agg31 rfl (Has.own 0 rfl) rfl rfl) (Res.tmp (v := .bool _) rfl)) _ (.inl rfl)
  have hb : bendW w how n = ⟨w.signer, w.holder, w.rlo, (w.rhi + 1), w.carrier, w.serial, w.slo, w.shi, w.sig⟩ := by rw [bendW, if_neg (by omega), if_neg (by omega), if_neg (by omega), if_neg (by omega), if_neg (by omega), if_neg (by omega), if_neg (by omega), if_neg (by omega)]
  rw [hb]; rfl
/- dialtone/dialtoneref15.Hashed -/
theorem c_ref15_Hashed (k c : Bytes) (hk : k.length ≤ 1000000000) (hc : c.length ≤ 500000000000) : Ctr Tryd.prog 22 #[.string (str k), .string (str c)] [] [] (γ := Option Addr × Nat) (fun x => True) (fun x => .slice x.1 2 x.2) (fun x => [row 9 1 x.1 2 x.2 ((hashed k c).flatMap eStr)]) := by
  refine Ctr.intro Tryd.func22 rfl Tryd.ntmps22 (Nat.le_of_ble_eq_true rfl) fun S0 w0 => ?_
  refine T.seq ?_
  refine T.region ?_
  refine TO.rd rfl rfl (rd_assign (v := .slice _ _ _) rfl) ?_
  refine TO.nil ?_
  refine TQ.then_normal ?_
  refine T.seq ?_
  refine T.region ?_
  refine TO.rd rfl rfl (rd_move (v := .string _) rfl) ?_
  refine TO.rd rfl rfl (rd_cat' rfl rfl (by first | omega | exact wishText_le _ | exact proxyText_le _ | exact puts3_le _ _ _ | (simp only [List.length_append, List.length_cons, List.length_nil, sha_len, leafOf_len, nodeOf_len, sealOf_len, List.length_take, List.length_drop]; omega) | (rw [keyB_len]; omega)) rfl) ?_
  refine TO.rd rfl rfl (rd_move (v := .string _) rfl) ?_
  refine TO.rd rfl rfl (rd_cat' rfl rfl (by first | omega | exact wishText_le _ | exact proxyText_le _ | exact puts3_le _ _ _ | (simp only [List.length_append, List.length_cons, List.length_nil, sha_len, leafOf_len, nodeOf_len, sealOf_len, List.length_take, List.length_drop]; omega) | (rw [keyB_len]; omega)) rfl) ?_
  refine TO.rd rfl rfl (rd_move (v := .string _) rfl) ?_
  refine TO.fn Tryd.enters50 (c_ref02_Leaf _ (by first | omega | exact wishText_le _ | exact proxyText_le _ | exact puts3_le _ _ _ | (simp only [List.length_append, List.length_cons, List.length_nil, sha_len, leafOf_len, nodeOf_len, sealOf_len, List.length_take, List.length_drop]; omega) | (rw [keyB_len]; omega))) rfl Reads0 ?_
  refine TO.rd rfl rfl (rd_cat' rfl rfl (by first | omega | exact wishText_le _ | exact proxyText_le _ | exact puts3_le _ _ _ | (simp only [List.length_append, List.length_cons, List.length_nil, sha_len, leafOf_len, nodeOf_len, sealOf_len, List.length_take, List.length_drop]; omega) | (rw [keyB_len]; omega)) rfl) ?_
  refine TO.buildS (cs := [.string _, .string _]) Tryd.under46 Tryd.size9 Tryd.zero9 (Nat.le_of_ble_eq_true rfl) rfl (fun b1 => ?_)
  refine TO.rd rfl rfl (rd_assign (v := .slice _ _ _) rfl) ?_
  refine TO.nil ?_
  refine TQ.then_normal ?_
  refine T.ret ?_
  refine TQ.done ((some ⟨b1, 0, none⟩, 2)) (trivial) ?_ (fun _ _ => seps_lit 0 1 2 rfl rfl (by decide) (rfl)) (res1 Tryd.results22 (Res.tmp (v := .slice _ _ _) rfl)) _ (.inl rfl)
  rfl
/- dialtone/dialtoneref02.Collided -/
theorem c_ref02_Collided (A : Option Addr) (cap n : Nat) (a : List Bytes) (hn : n = a.length) (B : Option Addr) (capb m : Nat) (b : List Bytes) (hm : m = b.length) (hal : a.length ≤ 1000) (hbl : b.length ≤ 1000) (ha : ∀ i (h : i < a.length), (a[i]'h).length ≤ 1000000000000) (hb : ∀ i (h : i < b.length), (b[i]'h).length ≤ 1000000000000) : Cv Tryd.prog 21 #[.slice A n cap, .slice B m capb] [slc eStr 1 A a, slc eStr 1 B b] (.bool (collB a b)) := by
  subst hn hm
  refine Ctr.intro Tryd.func21 rfl Tryd.ntmps21 (Nat.le_of_ble_eq_true rfl) fun S0 w0 => ?_
  refine T.seq ?_
  refine T.region ?_
  refine TO.rd rfl rfl (rd_assign (v := .bool _) rfl) ?_
  refine TO.nil ?_
  refine TQ.then_normal ?_
  refine T.seq ?_
  refine T.region ?_
  refine TO.rd rfl rfl (rd_assign (v := .slice none 0 0) rfl) ?_
  refine TO.newrow 9 1 ?_
  refine TO.nil ?_
  refine TQ.then_normal ?_
  refine T.seq ?_
  refine T.seq ?_
  refine T.region ?_
  refine TO.rd rfl rfl (rd_assign (v := .int _ _) rfl) ?_
  refine TO.nil ?_
  refine TQ.then_normal ?_
  refine T.block ?_
  refine T.loop3 [0, 1] (fun (A1 : Option Addr) (cap1 : Nat) (q : Nat) => [(5, .slice A1 q cap1), (6, .int .i64 (q : Nat))]) (fun (A1 : Option Addr) (cap1 : Nat) (q : Nat) => [row 9 1 A1 q cap1 (((b.take q).map sha).flatMap eStr)]) (fun (A1 : Option Addr) (cap1 : Nat) (q : Nat) => q ≤ b.length) (fun (A1 : Option Addr) (cap1 : Nat) (q : Nat) => b.length - q) (none) (0) (0) (Nat.zero_le _) (And.intro (rfl) (And.intro (rfl) (trivial))) (fun _ _ h => h) fun A1 cap1 q g0 hx0 => ?_
  refine T.seq ?_
  refine T.seq ?_
  refine T.region ?_
  refine TO.rd rfl rfl (rd_move (v := .int _ _) rfl) ?_
  refine TO.rd rfl rfl (rd_move (v := .slice _ _ _) rfl) ?_
  refine TO.rd rfl rfl (rd_lensl Tryd.under46 rfl) ?_
  refine TO.rd rfl rfl (rd_lss rfl rfl) ?_
  refine TO.nil ?_
  refine TQ.then_normal ?_
  refine T.cond rfl (fun h2 => ?_) (fun h2 => ?_)
  · try simp only [decide_eq_true_eq, decide_eq_false_iff_not, Bool.not_eq_true', Bool.not_eq_false', Bool.not_eq_eq_eq_not, Bool.not_true, Bool.not_false, beq_iff_eq, beq_eq_false_iff_ne, bne_iff_ne, bne_eq_false_iff_eq, ne_eq, Int.not_lt, Int.not_le, Decidable.not_not] at h2
    refine T.skip ?_
    refine TQ.then_normal ?_
    refine T.seq ?_
    refine T.block ?_
    refine T.region ?_
    refine TO.rd rfl rfl (rd_move (v := .slice _ _ _) rfl) ?_
    refine TO.rd rfl rfl (rd_move (v := .slice _ _ _) rfl) ?_
    refine TO.rd rfl rfl (rd_move (v := .int _ _) rfl) ?_
    refine TO.rd rfl rfl (rd_ix (k := q) Tryd.under46 Tryd.size9 rfl rfl (Has.arg 1 rfl) rfl (by omega) (by first | omega | (simp only [List.length_map, List.length_take]; omega))) ?_
    refine TO.rd rfl rfl (rd_el (v := .string _) q 0 Tryd.one9 rfl (Has.arg 1 rfl) rfl (by omega) (Nat.le_of_ble_eq_true rfl) rfl) ?_
    have hbq := hb q (by omega)
    refine TO.fn Tryd.enters49 (c_ref02_Sum _ (by first | omega | exact wishText_le _ | exact proxyText_le _ | exact puts3_le _ _ _ | (simp only [List.length_append, List.length_cons, List.length_nil, sha_len, leafOf_len, nodeOf_len, sealOf_len, List.length_take, List.length_drop]; omega) | (rw [keyB_len]; omega))) rfl Reads0 ?_
    refine TO.buildS (cs := [.string _]) Tryd.under46 Tryd.size9 Tryd.zero9 (Nat.le_of_ble_eq_true rfl) rfl (fun b3 => ?_)
    refine TO.front1 ?_
    refine TO.app Tryd.trow9 Tryd.under46 (.inl ⟨_, Tryd.under46⟩) rfl rfl (Src.own1 1 rfl rfl) rfl rfl (by omega) (fun A4 c5 hc6 => ?_)
    refine TO.row_eq (k' := q + 1) (cs' := ((b.take (q + 1)).map sha).flatMap eStr) rfl (by rw [← take_snoc (by omega), List.map_append, List.flatMap_append]; rfl) ?_
    refine TO.rd rfl rfl (rd_assign (v := .slice _ _ _) rfl) ?_
    refine TO.nil ?_
    refine TQ.block_normal ?_
    refine TQ.then_normal ?_
    refine T.region ?_
    refine TO.rd rfl rfl (rd_move (v := .int _ _) rfl) ?_
    refine TO.rd rfl rfl (rd_add rfl rfl (w64 (by omega) (by omega))) ?_
    refine TO.rd rfl rfl (rd_assign (v := .int _ _) rfl) ?_
    refine TO.nil ?_
    refine TQ.againk (A4, c5, q + 1) ?_ ?_ (And.intro (rfl) (And.intro (rfl) (trivial))) (And.intro (rfl) (And.intro (rfl) (trivial))) (fun _ _ h => h.sel (js := [0]) (by decide))
    · first | omega | (dsimp only; omega)
    · first | omega | (dsimp only; omega)
  try simp only [decide_eq_true_eq, decide_eq_false_iff_not, Bool.not_eq_true', Bool.not_eq_false', Bool.not_eq_eq_eq_not, Bool.not_true, Bool.not_false, beq_iff_eq, beq_eq_false_iff_ne, bne_iff_ne, bne_eq_false_iff_eq, ne_eq, Int.not_lt, Int.not_le, Decidable.not_not] at h2
  refine T.exit ?_
  refine TQ.then_exit ?_
  refine TQ.then_exit ?_
  refine TQ.block_out ?_
  refine TQ.then_normal ?_
  refine T.seq ?_
  refine T.seq ?_
  refine T.region ?_
  refine TO.rd rfl rfl (rd_assign (v := .int _ _) rfl) ?_
  refine TO.nil ?_
  refine TQ.then_normal ?_
  refine T.block ?_
  refine T.loop1 [0, 1, 5] (fun (k : Nat) => [(7, .int .i64 (k : Nat))]) (fun (k : Nat) => []) (fun (k : Nat) => k ≤ a.length ∧ (a.take k).any (fun x => b.any (collQ x)) = false) (fun (k : Nat) => a.length - k) (0) (⟨Nat.zero_le _, rfl⟩) (And.intro (rfl) (trivial)) (fun _ _ h => h) fun k g1 hx1 => ?_
  obtain ⟨hk, hk0⟩ := hx1
  refine T.seq ?_
  refine T.seq ?_
  refine T.region ?_
  refine TO.rd rfl rfl (rd_move (v := .int _ _) rfl) ?_
  refine TO.rd rfl rfl (rd_move (v := .slice _ _ _) rfl) ?_
  refine TO.rd rfl rfl (rd_lensl Tryd.under46 rfl) ?_
  refine TO.rd rfl rfl (rd_lss rfl rfl) ?_
  refine TO.nil ?_
  refine TQ.then_normal ?_
  refine T.cond_ft rfl (fun h7 => ?_) (fun h7 => ?_)
  · try simp only [decide_eq_true_eq, decide_eq_false_iff_not, Bool.not_eq_true', Bool.not_eq_false', Bool.not_eq_eq_eq_not, Bool.not_true, Bool.not_false, beq_iff_eq, beq_eq_false_iff_ne, bne_iff_ne, bne_eq_false_iff_eq, ne_eq, Int.not_lt, Int.not_le, Decidable.not_not] at h7
    refine T.exit ?_
    refine TQ.then_exit ?_
    refine TQ.then_exit ?_
    refine TQ.block_out ?_
    refine TQ.then_normal ?_
    refine T.seq ?_
    refine T.region ?_
    refine TO.rd rfl rfl (rd_assign (v := .bool _) rfl) ?_
    refine TO.nil ?_
    refine TQ.then_normal ?_
    refine T.ret ?_
    refine TQ.value ?_ (res1 Tryd.results21 (Res.tmp (v := .bool _) rfl)) _ (.inl rfl)
    rw [collB, any_done hk0 (by omega)]
  try simp only [decide_eq_true_eq, decide_eq_false_iff_not, Bool.not_eq_true', Bool.not_eq_false', Bool.not_eq_eq_eq_not, Bool.not_true, Bool.not_false, beq_iff_eq, beq_eq_false_iff_ne, bne_iff_ne, bne_eq_false_iff_eq, ne_eq, Int.not_lt, Int.not_le, Decidable.not_not] at h7
  refine T.skip ?_
  refine TQ.then_normal ?_
  refine T.seq ?_
  refine T.block ?_
  refine T.seq ?_
  refine T.region ?_
  refine TO.rd rfl rfl (rd_move (v := .slice _ _ _) rfl) ?_
  refine TO.rd rfl rfl (rd_move (v := .int _ _) rfl) ?_
  refine TO.rd rfl rfl (rd_ix (k := k) Tryd.under46 Tryd.size9 rfl rfl (Has.arg 0 rfl) rfl (by omega) (by first | omega | (simp only [List.length_map, List.length_take]; omega))) ?_
  refine TO.rd rfl rfl (rd_el (v := .string _) k 0 Tryd.one9 rfl (Has.arg 0 rfl) rfl (by omega) (Nat.le_of_ble_eq_true rfl) rfl) ?_
  have hak := ha k (by omega)
  refine TO.fn Tryd.enters49 (c_ref02_Sum _ (by first | omega | exact wishText_le _ | exact proxyText_le _ | exact puts3_le _ _ _ | (simp only [List.length_append, List.length_cons, List.length_nil, sha_len, leafOf_len, nodeOf_len, sealOf_len, List.length_take, List.length_drop]; omega) | (rw [keyB_len]; omega))) rfl Reads0 ?_
  refine TO.rd rfl rfl (rd_assign (v := .string _) rfl) ?_
  refine TO.nil ?_
  refine TQ.then_normal ?_
  refine T.seq ?_
  refine T.region ?_
  refine TO.rd rfl rfl (rd_assign (v := .int _ _) rfl) ?_
  refine TO.nil ?_
  refine TQ.then_normal ?_
  refine T.block ?_
  have hka : k < a.length := by omega
  refine T.loop1 [0, 1, 5, 7, 8] (fun (j : Nat) => [(9, .int .i64 (j : Nat))]) (fun (j : Nat) => []) (fun (j : Nat) => j ≤ b.length ∧ (b.take j).any (collQ (a[k]'hka)) = false) (fun (j : Nat) => b.length - j) (0) (⟨Nat.zero_le _, rfl⟩) (And.intro (rfl) (trivial)) (fun _ _ h => h) fun j g2 hx2 => ?_
  obtain ⟨hj, hj0⟩ := hx2
  refine T.seq ?_
  refine T.seq ?_
  refine T.region ?_
  refine TO.rd rfl rfl (rd_move (v := .int _ _) rfl) ?_
  refine TO.rd rfl rfl (rd_move (v := .slice _ _ _) rfl) ?_
  refine TO.rd rfl rfl (rd_lensl Tryd.under46 rfl) ?_
  refine TO.rd rfl rfl (rd_lss rfl rfl) ?_
  refine TO.nil ?_
  refine TQ.then_normal ?_
  refine T.cond_ft rfl (fun h8 => ?_) (fun h8 => ?_)
  · try simp only [decide_eq_true_eq, decide_eq_false_iff_not, Bool.not_eq_true', Bool.not_eq_false', Bool.not_eq_eq_eq_not, Bool.not_true, Bool.not_false, beq_iff_eq, beq_eq_false_iff_ne, bne_iff_ne, bne_eq_false_iff_eq, ne_eq, Int.not_lt, Int.not_le, Decidable.not_not] at h8
    refine T.exit ?_
    refine TQ.then_exit ?_
    refine TQ.then_exit ?_
    refine TQ.block_out ?_
    refine TQ.block_normal ?_
    refine TQ.then_normal ?_
    refine T.region ?_
    refine TO.rd rfl rfl (rd_move (v := .int _ _) rfl) ?_
    refine TO.rd rfl rfl (rd_add rfl rfl (w64 (by omega) (by omega))) ?_
    refine TO.rd rfl rfl (rd_assign (v := .int _ _) rfl) ?_
    refine TO.nil ?_
    refine TQ.againk (k + 1) ?_ ?_ (And.intro (rfl) (trivial)) (And.intro (rfl) (And.intro (rfl) (And.intro (rfl) (trivial)))) (fun _ _ h => h)
    · exact ⟨by first | omega | (dsimp only; omega), any_next (by omega) hk0 (any_done hj0 (by omega))⟩
    · first | omega | (dsimp only; omega)
  try simp only [decide_eq_true_eq, decide_eq_false_iff_not, Bool.not_eq_true', Bool.not_eq_false', Bool.not_eq_eq_eq_not, Bool.not_true, Bool.not_false, beq_iff_eq, beq_eq_false_iff_ne, bne_iff_ne, bne_eq_false_iff_eq, ne_eq, Int.not_lt, Int.not_le, Decidable.not_not] at h8
  refine T.skip ?_
  refine TQ.then_normal ?_
  refine T.seq ?_
  refine T.block ?_
  refine T.seq ?_
  refine T.drawq Tryd.mixes 15 [(41, 0), (42, 1), (43, 2), (44, 3), (45, 4), (46, 5), (47, 6), (48, 7), (49, 8), (50, 9), (51, 10), (52, 11), (53, 12), (54, 13), (55, 14)] [0, 0, 3, 7, 0, 0, 48, 112, 255, 511, 1023, 1023, 1023, 7167, 15359, 32767, 65535] (by kernel_rfl) ?_
  refine DQ.rd rfl rfl (fun _ => rd_move (v := .slice _ _ _) rfl) ?_
  refine DQ.rd rfl rfl (fun _ => rd_move (v := .int _ _) rfl) ?_
  refine DQ.rd rfl rfl (fun _ => rd_ix (k := k) Tryd.under46 Tryd.size9 rfl rfl (Has.arg 0 rfl) rfl (by omega) (by first | omega | (simp only [List.length_map, List.length_take]; omega))) ?_
  refine DQ.rd rfl rfl (fun _ => rd_el (v := .string _) k 0 Tryd.one9 rfl (Has.arg 0 rfl) rfl (by omega) (Nat.le_of_ble_eq_true rfl) rfl) ?_
  refine DQ.rd rfl rfl (fun _ => rd_move (v := .slice _ _ _) rfl) ?_
  refine DQ.rd rfl rfl (fun _ => rd_move (v := .int _ _) rfl) ?_
  refine DQ.rd rfl rfl (fun _ => rd_ix (k := j) Tryd.under46 Tryd.size9 rfl rfl (Has.arg 1 rfl) rfl (by omega) (by first | omega | (simp only [List.length_map, List.length_take]; omega))) ?_
  refine DQ.rd rfl rfl (fun _ => rd_el (v := .string _) j 0 Tryd.one9 rfl (Has.arg 1 rfl) rfl (by omega) (Nat.le_of_ble_eq_true rfl) rfl) ?_
  refine DQ.rd rfl rfl (fun _ => rd_nes' rfl rfl) ?_
  refine DQ.rd rfl rfl (fun _ => rd_move (v := .bool _) rfl) ?_
  refine DQ.decide_ft 9 rfl (fun h9 => ?_) (fun h9 => ?_)
  · try simp only [decide_eq_true_eq, decide_eq_false_iff_not, Bool.not_eq_true', Bool.not_eq_false', Bool.not_eq_eq_eq_not, Bool.not_true, Bool.not_false, beq_iff_eq, beq_eq_false_iff_ne, bne_iff_ne, bne_eq_false_iff_eq, ne_eq, Int.not_lt, Int.not_le, Decidable.not_not] at h9
    refine DQ.off (b' := false) rfl rfl (fun _ => rfl) nofun ?_
    refine DQ.off (b' := false) rfl rfl (fun _ => rfl) nofun ?_
    refine DQ.off (b' := false) rfl rfl (fun _ => rfl) nofun ?_
    refine DQ.off (b' := false) rfl rfl (fun _ => rfl) nofun ?_
    refine DQ.off (b' := false) rfl rfl (fun _ => rfl) nofun ?_
    refine DQ.done rfl ?_
    refine TO.guard_false (s := 50) (b' := false) rfl rfl nofun ?_
    refine TO.rd rfl rfl (rd_pick_false (v := .bool _) rfl rfl) ?_
    refine TO.nil ?_
    refine TQ.then_normal ?_
    refine T.cond_false rfl ?_
    refine T.skip ?_
    refine TQ.block_normal ?_
    refine TQ.then_normal ?_
    refine T.region ?_
    refine TO.rd rfl rfl (rd_move (v := .int _ _) rfl) ?_
    refine TO.rd rfl rfl (rd_add rfl rfl (w64 (by omega) (by omega))) ?_
    refine TO.rd rfl rfl (rd_assign (v := .int _ _) rfl) ?_
    refine TO.nil ?_
    refine TQ.againk (j + 1) ?_ ?_ (And.intro (rfl) (trivial)) (And.intro (rfl) (And.intro (rfl) (And.intro (rfl) (And.intro (rfl) (And.intro (rfl) (trivial)))))) (fun _ _ h => h)
    · exact ⟨by first | omega | (dsimp only; omega), any_next (by omega) hj0 (collQ_f (by simp_all))⟩
    · first | omega | (dsimp only; omega)
  try simp only [decide_eq_true_eq, decide_eq_false_iff_not, Bool.not_eq_true', Bool.not_eq_false', Bool.not_eq_eq_eq_not, Bool.not_true, Bool.not_false, beq_iff_eq, beq_eq_false_iff_ne, bne_iff_ne, bne_eq_false_iff_eq, ne_eq, Int.not_lt, Int.not_le, Decidable.not_not] at h9
  refine DQ.rdg rfl rfl (fun _ => rfl) (fun _ => rd_move (v := .string _) rfl) ?_
  refine DQ.rdg rfl rfl (fun _ => rfl) (fun _ => rd_move (v := .slice _ _ _) rfl) ?_
  refine DQ.rdg rfl rfl (fun _ => rfl) (fun _ => rd_move (v := .int _ _) rfl) ?_
  refine DQ.rdg rfl rfl (fun _ => rfl) (fun _ => rd_ix (k := j) Tryd.under46 Tryd.size9 rfl rfl (row_slc' (e := eStr) (xs := ((b.take q).map sha)) (fun _ => rfl) (by first | rfl | (simp only [List.length_map, List.length_take]; omega)) (rfl) (Has.own 0 rfl)) rfl (by simp only [List.length_map, List.length_take]; omega) (by first | omega | (simp only [List.length_map, List.length_take]; omega))) ?_
  refine DQ.rdg rfl rfl (fun _ => rfl) (fun _ => rd_el (v := .string _) j 0 Tryd.one9 rfl (row_slc' (e := eStr) (xs := ((b.take q).map sha)) (fun _ => rfl) (by first | rfl | (simp only [List.length_map, List.length_take]; omega)) (rfl) (Has.own 0 rfl)) rfl (by simp only [List.length_map, List.length_take]; omega) (Nat.le_of_ble_eq_true rfl) rfl) ?_
  refine DQ.done rfl ?_
  refine TO.guard_true (s := 50) rfl rfl ?_
  refine TO.rd rfl rfl (rd_eqs' rfl rfl) ?_
  refine TO.rd rfl rfl (rd_pick_true (v := .bool _) rfl rfl) ?_
  refine TO.nil ?_
  refine TQ.then_normal ?_
  refine T.cond_ft rfl (fun h10 => ?_) (fun h10 => ?_)
  · try simp only [decide_eq_true_eq, decide_eq_false_iff_not, Bool.not_eq_true', Bool.not_eq_false', Bool.not_eq_eq_eq_not, Bool.not_true, Bool.not_false, beq_iff_eq, beq_eq_false_iff_ne, bne_iff_ne, bne_eq_false_iff_eq, ne_eq, Int.not_lt, Int.not_le, Decidable.not_not] at h10
    refine T.skip ?_
    refine TQ.block_normal ?_
    refine TQ.then_normal ?_
    refine T.region ?_
    refine TO.rd rfl rfl (rd_move (v := .int _ _) rfl) ?_
    refine TO.rd rfl rfl (rd_add rfl rfl (w64 (by omega) (by omega))) ?_
    refine TO.rd rfl rfl (rd_assign (v := .int _ _) rfl) ?_
    refine TO.nil ?_
    refine TQ.againk (j + 1) ?_ ?_ (And.intro (rfl) (trivial)) (And.intro (rfl) (And.intro (rfl) (And.intro (rfl) (And.intro (rfl) (And.intro (rfl) (trivial)))))) (fun _ _ h => h)
    · exact ⟨by first | omega | (dsimp only; omega), any_next (by omega) hj0 (collQ_f (by simp_all))⟩
    · first | omega | (dsimp only; omega)
  try simp only [decide_eq_true_eq, decide_eq_false_iff_not, Bool.not_eq_true', Bool.not_eq_false', Bool.not_eq_eq_eq_not, Bool.not_true, Bool.not_false, beq_iff_eq, beq_eq_false_iff_ne, bne_iff_ne, bne_eq_false_iff_eq, ne_eq, Int.not_lt, Int.not_le, Decidable.not_not] at h10
  refine T.seq ?_
  refine T.region ?_
  refine TO.rd rfl rfl (rd_assign (v := .bool _) rfl) ?_
  refine TO.nil ?_
  refine TQ.then_normal ?_
  refine T.ret ?_
  refine TQ.block_ret ?_
  refine TQ.then_ret ?_
  refine TQ.then_ret ?_
  refine TQ.block_ret ?_
  refine TQ.block_ret ?_
  refine TQ.then_ret ?_
  refine TQ.then_ret ?_
  refine TQ.block_ret ?_
  refine TQ.then_ret ?_
  refine TQ.value ?_ (res1 Tryd.results21 (Res.tmp (v := .bool _) rfl)) _ (.inl rfl)
  exact congrArg Value.bool (show collB a b = true from any_hit (p := fun x => b.any (collQ x)) (k := k) (by omega) (any_hit (k := j) (by omega) (collQ_t h9 (by simpa using h10))))
/- dialtone/dialtonelaw15.alike -/
theorem c_law15_alike (A : Option Addr) (cap n : Nat) (a : List Bytes) (hn : n = a.length) (B : Option Addr) (capb m : Nat) (b : List Bytes) (hm : m = b.length) (hal : a.length ≤ 1000) (hbl : b.length ≤ 1000) (ha : ∀ i (h : i < a.length), (a[i]'h).length ≤ 1000000000000) (hb : ∀ i (h : i < b.length), (b[i]'h).length ≤ 1000000000000) : Cv Tryd.prog 27 #[.slice A n cap, .slice B m capb] [slc eStr 1 A a, slc eStr 1 B b] (.bool (alikeB a b)) := by
  subst hn hm
  refine Ctr.intro Tryd.func27 rfl Tryd.ntmps27 (Nat.le_of_ble_eq_true rfl) fun S0 w0 => ?_
  refine T.seq ?_
  refine T.region ?_
  refine TO.rd rfl rfl (rd_assign (v := .bool _) rfl) ?_
  refine TO.nil ?_
  refine TQ.then_normal ?_
  refine T.seq ?_
  refine T.seq ?_
  refine T.region ?_
  refine TO.rd rfl rfl (rd_assign (v := .int _ _) rfl) ?_
  refine TO.nil ?_
  refine TQ.then_normal ?_
  refine T.block ?_
  refine T.loop1 [0, 1] (fun (k : Nat) => [(5, .int .i64 (k : Nat))]) (fun (k : Nat) => []) (fun (k : Nat) => k ≤ a.length ∧ (a.take k).any (fun x => b.any (alikeQ x)) = false) (fun (k : Nat) => a.length - k) (0) (⟨Nat.zero_le _, rfl⟩) (And.intro (rfl) (trivial)) (fun _ _ h => h) fun k g0 hx0 => ?_
  obtain ⟨hk, hk0⟩ := hx0
  refine T.seq ?_
  refine T.seq ?_
  refine T.region ?_
  refine TO.rd rfl rfl (rd_move (v := .int _ _) rfl) ?_
  refine TO.rd rfl rfl (rd_move (v := .slice _ _ _) rfl) ?_
  refine TO.rd rfl rfl (rd_lensl Tryd.under46 rfl) ?_
  refine TO.rd rfl rfl (rd_lss rfl rfl) ?_
  refine TO.nil ?_
  refine TQ.then_normal ?_
  refine T.cond_ft rfl (fun h1 => ?_) (fun h1 => ?_)
  · try simp only [decide_eq_true_eq, decide_eq_false_iff_not, Bool.not_eq_true', Bool.not_eq_false', Bool.not_eq_eq_eq_not, Bool.not_true, Bool.not_false, beq_iff_eq, beq_eq_false_iff_ne, bne_iff_ne, bne_eq_false_iff_eq, ne_eq, Int.not_lt, Int.not_le, Decidable.not_not] at h1
    refine T.exit ?_
    refine TQ.then_exit ?_
    refine TQ.then_exit ?_
    refine TQ.block_out ?_
    refine TQ.then_normal ?_
    refine T.seq ?_
    refine T.region ?_
    refine TO.rd rfl rfl (rd_assign (v := .bool _) rfl) ?_
    refine TO.nil ?_
    refine TQ.then_normal ?_
    refine T.ret ?_
    refine TQ.value ?_ (res1 Tryd.results27 (Res.tmp (v := .bool _) rfl)) _ (.inl rfl)
    rw [alikeB, any_done hk0 (by omega)]
  try simp only [decide_eq_true_eq, decide_eq_false_iff_not, Bool.not_eq_true', Bool.not_eq_false', Bool.not_eq_eq_eq_not, Bool.not_true, Bool.not_false, beq_iff_eq, beq_eq_false_iff_ne, bne_iff_ne, bne_eq_false_iff_eq, ne_eq, Int.not_lt, Int.not_le, Decidable.not_not] at h1
  refine T.skip ?_
  refine TQ.then_normal ?_
  refine T.seq ?_
  refine T.block ?_
  refine T.seq ?_
  refine T.region ?_
  refine TO.rd rfl rfl (rd_move (v := .slice _ _ _) rfl) ?_
  refine TO.rd rfl rfl (rd_move (v := .int _ _) rfl) ?_
  refine TO.rd rfl rfl (rd_ix (k := k) Tryd.under46 Tryd.size9 rfl rfl (Has.arg 0 rfl) rfl (by omega) (by omega)) ?_
  refine TO.rd rfl rfl (rd_el (v := .string _) k 0 Tryd.one9 rfl (Has.arg 0 rfl) rfl (by omega) (Nat.le_of_ble_eq_true rfl) rfl) ?_
  have hak := ha k (by omega)
  refine TO.fn Tryd.enters49 (c_ref02_Sum _ (by first | omega | exact wishText_le _ | exact proxyText_le _ | exact puts3_le _ _ _ | (simp only [List.length_append, List.length_cons, List.length_nil, sha_len, leafOf_len, nodeOf_len, sealOf_len, List.length_take, List.length_drop]; omega) | (rw [keyB_len]; omega))) rfl Reads0 ?_
  refine TO.rd rfl rfl (rd_assign (v := .string _) rfl) ?_
  refine TO.nil ?_
  refine TQ.then_normal ?_
  refine T.seq ?_
  refine T.region ?_
  refine TO.rd rfl rfl (rd_assign (v := .int _ _) rfl) ?_
  refine TO.nil ?_
  refine TQ.then_normal ?_
  refine T.block ?_
  have hka : k < a.length := by omega
  refine T.loop1 [0, 1, 5, 6] (fun (j : Nat) => [(7, .int .i64 (j : Nat))]) (fun (j : Nat) => []) (fun (j : Nat) => j ≤ b.length ∧ (b.take j).any (alikeQ (a[k]'hka)) = false) (fun (j : Nat) => b.length - j) (0) (⟨Nat.zero_le _, rfl⟩) (And.intro (rfl) (trivial)) (fun _ _ h => h) fun j g1 hx1 => ?_
  obtain ⟨hj, hj0⟩ := hx1
  refine T.seq ?_
  refine T.seq ?_
  refine T.region ?_
  refine TO.rd rfl rfl (rd_move (v := .int _ _) rfl) ?_
  refine TO.rd rfl rfl (rd_move (v := .slice _ _ _) rfl) ?_
  refine TO.rd rfl rfl (rd_lensl Tryd.under46 rfl) ?_
  refine TO.rd rfl rfl (rd_lss rfl rfl) ?_
  refine TO.nil ?_
  refine TQ.then_normal ?_
  refine T.cond_ft rfl (fun h2 => ?_) (fun h2 => ?_)
  · try simp only [decide_eq_true_eq, decide_eq_false_iff_not, Bool.not_eq_true', Bool.not_eq_false', Bool.not_eq_eq_eq_not, Bool.not_true, Bool.not_false, beq_iff_eq, beq_eq_false_iff_ne, bne_iff_ne, bne_eq_false_iff_eq, ne_eq, Int.not_lt, Int.not_le, Decidable.not_not] at h2
    refine T.exit ?_
    refine TQ.then_exit ?_
    refine TQ.then_exit ?_
    refine TQ.block_out ?_
    refine TQ.block_normal ?_
    refine TQ.then_normal ?_
    refine T.region ?_
    refine TO.rd rfl rfl (rd_move (v := .int _ _) rfl) ?_
    refine TO.rd rfl rfl (rd_add rfl rfl (w64 (by omega) (by omega))) ?_
    refine TO.rd rfl rfl (rd_assign (v := .int _ _) rfl) ?_
    refine TO.nil ?_
    refine TQ.againk (k + 1) ?_ ?_ (And.intro (rfl) (trivial)) (And.intro (rfl) (And.intro (rfl) (trivial))) (fun _ _ h => h)
    · exact ⟨by first | omega | (dsimp only; omega), any_next (by omega) hk0 (any_done hj0 (by omega))⟩
    · first | omega | (dsimp only; omega)
  try simp only [decide_eq_true_eq, decide_eq_false_iff_not, Bool.not_eq_true', Bool.not_eq_false', Bool.not_eq_eq_eq_not, Bool.not_true, Bool.not_false, beq_iff_eq, beq_eq_false_iff_ne, bne_iff_ne, bne_eq_false_iff_eq, ne_eq, Int.not_lt, Int.not_le, Decidable.not_not] at h2
  refine T.skip ?_
  refine TQ.then_normal ?_
  refine T.seq ?_
  refine T.block ?_
  refine T.seq ?_
  refine T.region ?_
  refine TO.rd rfl rfl (rd_move (v := .slice _ _ _) rfl) ?_
  refine TO.rd rfl rfl (rd_move (v := .int _ _) rfl) ?_
  refine TO.rd rfl rfl (rd_ix (k := j) Tryd.under46 Tryd.size9 rfl rfl (Has.arg 1 rfl) rfl (by omega) (by omega)) ?_
  refine TO.rd rfl rfl (rd_el (v := .string _) j 0 Tryd.one9 rfl (Has.arg 1 rfl) rfl (by omega) (Nat.le_of_ble_eq_true rfl) rfl) ?_
  have hbj := hb j (by omega)
  refine TO.fn Tryd.enters49 (c_ref02_Sum _ (by first | omega | exact wishText_le _ | exact proxyText_le _ | exact puts3_le _ _ _ | (simp only [List.length_append, List.length_cons, List.length_nil, sha_len, leafOf_len, nodeOf_len, sealOf_len, List.length_take, List.length_drop]; omega) | (rw [keyB_len]; omega))) rfl Reads0 ?_
  refine TO.rd rfl rfl (rd_assign (v := .string _) rfl) ?_
  refine TO.nil ?_
  refine TQ.then_normal ?_
  refine T.seq ?_
  refine T.drawq Tryd.mixes 14 [(31, 0), (32, 1), (33, 2), (34, 3), (35, 4), (36, 5), (37, 6), (38, 7), (39, 8), (40, 9), (41, 10), (42, 11), (43, 12), (44, 13)] [0, 0, 3, 7, 0, 0, 48, 112, 255, 511, 1023, 2047, 1023, 5119, 16383, 32767] (by kernel_rfl) ?_
  refine DQ.rd rfl rfl (fun _ => rd_move (v := .slice _ _ _) rfl) ?_
  refine DQ.rd rfl rfl (fun _ => rd_move (v := .int _ _) rfl) ?_
  refine DQ.rd rfl rfl (fun _ => rd_ix (k := k) Tryd.under46 Tryd.size9 rfl rfl (Has.arg 0 rfl) rfl (by omega) (by omega)) ?_
  refine DQ.rd rfl rfl (fun _ => rd_el (v := .string _) k 0 Tryd.one9 rfl (Has.arg 0 rfl) rfl (by omega) (Nat.le_of_ble_eq_true rfl) rfl) ?_
  refine DQ.rd rfl rfl (fun _ => rd_move (v := .slice _ _ _) rfl) ?_
  refine DQ.rd rfl rfl (fun _ => rd_move (v := .int _ _) rfl) ?_
  refine DQ.rd rfl rfl (fun _ => rd_ix (k := j) Tryd.under46 Tryd.size9 rfl rfl (Has.arg 1 rfl) rfl (by omega) (by omega)) ?_
  refine DQ.rd rfl rfl (fun _ => rd_el (v := .string _) j 0 Tryd.one9 rfl (Has.arg 1 rfl) rfl (by omega) (Nat.le_of_ble_eq_true rfl) rfl) ?_
  refine DQ.rd rfl rfl (fun _ => rd_nes' rfl rfl) ?_
  refine DQ.rd rfl rfl (fun _ => rd_move (v := .bool _) rfl) ?_
  refine DQ.decide_ft 9 rfl (fun h3 => ?_) (fun h3 => ?_)
  · try simp only [decide_eq_true_eq, decide_eq_false_iff_not, Bool.not_eq_true', Bool.not_eq_false', Bool.not_eq_eq_eq_not, Bool.not_true, Bool.not_false, beq_iff_eq, beq_eq_false_iff_ne, bne_iff_ne, bne_eq_false_iff_eq, ne_eq, Int.not_lt, Int.not_le, Decidable.not_not] at h3
    refine DQ.off (b' := false) rfl rfl (fun _ => rfl) nofun ?_
    refine DQ.off (b' := false) rfl rfl (fun _ => rfl) nofun ?_
    refine DQ.off (b' := false) rfl rfl (fun _ => rfl) nofun ?_
    refine DQ.off (b' := false) rfl rfl (fun _ => rfl) nofun ?_
    refine DQ.done rfl ?_
    refine TO.guard_false (s := 40) (b' := false) rfl rfl nofun ?_
    refine TO.rd rfl rfl (rd_pick_false (v := .bool _) rfl rfl) ?_
    refine TO.nil ?_
    refine TQ.then_normal ?_
    refine T.cond_false rfl ?_
    refine T.skip ?_
    refine TQ.block_normal ?_
    refine TQ.then_normal ?_
    refine T.region ?_
    refine TO.rd rfl rfl (rd_move (v := .int _ _) rfl) ?_
    refine TO.rd rfl rfl (rd_add rfl rfl (w64 (by omega) (by omega))) ?_
    refine TO.rd rfl rfl (rd_assign (v := .int _ _) rfl) ?_
    refine TO.nil ?_
    refine TQ.againk (j + 1) ?_ ?_ (And.intro (rfl) (trivial)) (And.intro (rfl) (And.intro (rfl) (And.intro (rfl) (And.intro (rfl) (trivial))))) (fun _ _ h => h)
    · exact ⟨by first | omega | (dsimp only; omega), any_next (by omega) hj0 (alikeQ_f (by simp_all))⟩
    · first | omega | (dsimp only; omega)
  try simp only [decide_eq_true_eq, decide_eq_false_iff_not, Bool.not_eq_true', Bool.not_eq_false', Bool.not_eq_eq_eq_not, Bool.not_true, Bool.not_false, beq_iff_eq, beq_eq_false_iff_ne, bne_iff_ne, bne_eq_false_iff_eq, ne_eq, Int.not_lt, Int.not_le, Decidable.not_not] at h3
  refine DQ.rdg rfl rfl (fun _ => rfl) (fun _ => rd_move (v := .string _) rfl) ?_
  refine DQ.rdg rfl rfl (fun _ => rfl) (fun _ => rd_sub_str (i := 0) (j := 8) Tryd.under9 rfl (.inl ⟨rfl, rfl⟩) (.inr ⟨_, rfl⟩) (by decide) (by rw [sha_len]; decide) rfl) ?_
  refine DQ.rdg rfl rfl (fun _ => rfl) (fun _ => rd_move (v := .string _) rfl) ?_
  refine DQ.rdg rfl rfl (fun _ => rfl) (fun _ => rd_sub_str (i := 0) (j := 8) Tryd.under9 rfl (.inl ⟨rfl, rfl⟩) (.inr ⟨_, rfl⟩) (by decide) (by rw [sha_len]; decide) rfl) ?_
  refine DQ.done rfl ?_
  refine TO.guard_true (s := 40) rfl rfl ?_
  refine TO.rd rfl rfl (rd_eqs' rfl rfl) ?_
  refine TO.rd rfl rfl (rd_pick_true (v := .bool _) rfl rfl) ?_
  refine TO.nil ?_
  refine TQ.then_normal ?_
  refine T.cond_ft rfl (fun h4 => ?_) (fun h4 => ?_)
  · try simp only [decide_eq_true_eq, decide_eq_false_iff_not, Bool.not_eq_true', Bool.not_eq_false', Bool.not_eq_eq_eq_not, Bool.not_true, Bool.not_false, beq_iff_eq, beq_eq_false_iff_ne, bne_iff_ne, bne_eq_false_iff_eq, ne_eq, Int.not_lt, Int.not_le, Decidable.not_not] at h4
    refine T.skip ?_
    refine TQ.block_normal ?_
    refine TQ.then_normal ?_
    refine T.region ?_
    refine TO.rd rfl rfl (rd_move (v := .int _ _) rfl) ?_
    refine TO.rd rfl rfl (rd_add rfl rfl (w64 (by omega) (by omega))) ?_
    refine TO.rd rfl rfl (rd_assign (v := .int _ _) rfl) ?_
    refine TO.nil ?_
    refine TQ.againk (j + 1) ?_ ?_ (And.intro (rfl) (trivial)) (And.intro (rfl) (And.intro (rfl) (And.intro (rfl) (And.intro (rfl) (trivial))))) (fun _ _ h => h)
    · exact ⟨by first | omega | (dsimp only; omega), any_next (by omega) hj0 (alikeQ_f (by simp_all))⟩
    · first | omega | (dsimp only; omega)
  try simp only [decide_eq_true_eq, decide_eq_false_iff_not, Bool.not_eq_true', Bool.not_eq_false', Bool.not_eq_eq_eq_not, Bool.not_true, Bool.not_false, beq_iff_eq, beq_eq_false_iff_ne, bne_iff_ne, bne_eq_false_iff_eq, ne_eq, Int.not_lt, Int.not_le, Decidable.not_not] at h4
  refine T.seq ?_
  refine T.region ?_
  refine TO.rd rfl rfl (rd_assign (v := .bool _) rfl) ?_
  refine TO.nil ?_
  refine TQ.then_normal ?_
  refine T.ret ?_
  refine TQ.block_ret ?_
  refine TQ.then_ret ?_
  refine TQ.then_ret ?_
  refine TQ.block_ret ?_
  refine TQ.block_ret ?_
  refine TQ.then_ret ?_
  refine TQ.then_ret ?_
  refine TQ.block_ret ?_
  refine TQ.then_ret ?_
  refine TQ.value ?_ (res1 Tryd.results27 (Res.tmp (v := .bool _) rfl)) _ (.inl rfl)
  exact congrArg Value.bool (show alikeB a b = true from any_hit (p := fun x => b.any (alikeQ x)) (k := k) (by omega) (any_hit (k := j) (by omega) (alikeQ_t h3 h4)))
end Go.Proofs
end
section
/- From a call's contract to a given statement: the arguments as they are read, the listed variable, what is kept. No program is named here. -/
set_option linter.unusedVariables false
set_option linter.unusedSimpArgs false
namespace Go.TL
open Go.ChangeShapes Go.WideShapes Go.RowKit
theorem Ok.below {w w' : World} (h : Ok (fun _ => False) w w') : Below w.heap.size w w' := ⟨h.os, h.tape, h.output, h.size, fun k hk => h.block k hk (fun h => h)⟩
section
variable {H : Type} {enc : TypeId × Value → H} {P : Program} {base : Nat} {spare : Nat → Bool} {held : Bool}
theorem trodAll_below {W W' : World} (hl : laidOutB P = true) (hb : Below W.heap.size W W') : ∀ {ts : List TypeId} {vs : List Value} {ds : List (DataW H)} {ps : List MemPlace}, (ts.all fun t => P.readableRec t && decide (t < P.types.size)) = true →
    DataW.TrodAll enc P W 0 (fun _ => true) true ts vs ds ps → DataW.TrodAll enc P W' 0 (fun b => decide (b < W.heap.size)) true ts vs ds ps
  | [], [], [], _, _, h => h
  | [], [], _ :: _, _, _, h => h.elim
  | [], _ :: _, _, _, _, h => h.elim
  | _ :: _, [], _, _, _, h => h.elim
  | _ :: _, _ :: _, [], _, _, h => h.elim
  | t :: ts, v :: vs, d :: ds, ps, ht, h => by
    have hlt := h.lt
    obtain ⟨p, q, ⟨n, h1⟩, h2, e⟩ := h
    simp only [List.all_cons, Bool.and_eq_true, decide_eq_true_eq] at ht
    exact ⟨p, q, ⟨n, DataW.trod_stays (kids_book hl ht.1.1) (Go.book_sized ht.1.1) (fun h => by cases h) ⟨ht.1.2, book_self t⟩ h1 (fun x hx => hb.same (hlt x (by rw [e]; simp [hx]))) (fun x hx => by have := hlt x (by rw [e]; simp [hx]); simpa using this)⟩,
      trodAll_below hl hb (by simpa using ht.2) h2, e⟩
def structL : TypeDesc → Option (List (Nat × Nat))
  | .struct fs => some (fs.toList.map fun f => (f.type, f.offset))
  | _ => none
theorem trod_fields {w : World} {t fuel : Nat} {cs : List Value} {x : DataW H × List MemPlace} {l : List (Nat × Nat)} (hu : (P.underlying t).bind structL = some l) (h : DataW.trod enc P w base spare held fuel t cs = some x) :
    ∃ (n : Nat), cs.length = P.cellsOf t ∧ ∀ i (hi : i < l.length), ∃ y, DataW.trod enc P w base spare held n (l[i]'hi).1 ((cs.drop (l[i]'hi).2).take (P.cellsOf (l[i]'hi).1)) = some y := by
  cases hd : P.underlying t with
  | none => rw [hd] at hu; simp at hu
  | some d =>
    rw [hd] at hu
    cases d with
    | struct fs =>
      simp only [Option.bind_some, structL, Option.some.injEq] at hu
      subst hu
      obtain ⟨xs, n, _, _, h1, h2, h3⟩ := DataW.trod_struct hd h
      refine ⟨n, h1, fun i hi => ?_⟩
      simp only [List.length_map, Array.length_toList] at hi
      refine ⟨xs[i]'(by omega), ?_⟩
      have := h3 i fs[i] (by simp [hi])
      simp only [List.getElem_map, Array.getElem_toList]
      rw [this]
      simp [h2, hi]
    | _ => simp [structL] at hu
theorem trod_elems {w : World} {t fuel m e : Nat} {cs : List Value} {x : DataW H × List MemPlace} (hu : P.underlying t = some (.array m e)) (h : DataW.trod enc P w base spare held fuel t cs = some x) :
    ∃ (n : Nat), cs.length = P.cellsOf t ∧ ∀ i, i < m → ∃ y, DataW.trod enc P w base spare held n e ((cs.drop (i * P.cellsOf e)).take (P.cellsOf e)) = some y := by
  obtain ⟨xs, n, _, _, h1, h2, h3⟩ := DataW.trod_array hu h
  refine ⟨n, h1, fun i hi => ⟨xs[i]'(by omega), ?_⟩⟩
  rw [h3 i hi]
  simp [h2, hi]
theorem wf_i64 {n : Int} (h : (Lit.int .i64 n).wf = true) : I64R n := by
  simpa [I64R, Lit.wf, IntKind.min, IntKind.max, IntKind.signed, IntKind.bits] using h
theorem trod_i64 {w : World} {t fuel : Nat} {cs : List Value} {x : DataW H × List MemPlace} (ht : P.underlying t = some (.int .i64)) (h : DataW.trod enc P w base spare held fuel t cs = some x) : ∃ n, cs = [.int .i64 n] ∧ I64R n := by
  obtain ⟨n, h1, _, h2⟩ := DataW.trod_int ht h
  exact ⟨n, h1, wf_i64 h2⟩
theorem str_data (s : ByteArray) : s = str s.data.toList := by
  cases s; simp [str]
theorem trod_str {w : World} {t fuel : Nat} {cs : List Value} {x : DataW H × List MemPlace} (ht : P.underlying t = some .string) (h : DataW.trod enc P w base spare held fuel t cs = some x) : ∃ l : Bytes, cs = [.string (str l)] ∧ l.length ≤ 9223372036854775807 := by
  obtain ⟨s, h1, _, h2⟩ := DataW.trod_string ht h
  refine ⟨s.data.toList, by rw [h1, ← str_data], ?_⟩
  rw [Array.length_toList]
  exact Nat.le_trans h2 (Nat.le_of_ble_eq_true rfl)
theorem exists_list {α : Type} {Q : Nat → α → Prop} : ∀ (n : Nat), (∀ i, i < n → ∃ y, Q i y) → ∃ ys : List α, ys.length = n ∧ ∀ i (h : i < ys.length), Q i ys[i]
  | 0, _ => ⟨[], rfl, fun i h => absurd h (Nat.not_lt_zero i)⟩
  | n + 1, h => by
    obtain ⟨ys, h1, h2⟩ := exists_list n fun i hi => h i (by omega)
    obtain ⟨y, hy⟩ := h n (by omega)
    refine ⟨ys ++ [y], by simp [h1], fun i hi => ?_⟩
    rcases Nat.lt_or_ge i ys.length with h' | h'
    · rw [List.getElem_append_left h']; exact h2 i h'
    · have : i = n := by simp at hi; omega
      subst this
      rw [List.getElem_append_right h']
      simpa using hy
theorem mapM_range_get {β : Type} {f : Nat → Option β} : ∀ {n : Nat} {l : List β}, (List.range n).mapM f = some l → l.length = n ∧ ∀ i, i < n → f i = l[i]?
  | 0, l, h => by simp at h; subst h; exact ⟨rfl, fun i hi => absurd hi (Nat.not_lt_zero i)⟩
  | n + 1, l, h => by
    rw [List.range_succ, List.mapM_append] at h
    simp only [List.mapM_cons, List.mapM_nil, Option.bind_eq_bind, Option.pure_def, Option.bind_eq_some_iff] at h
    obtain ⟨l1, h1, l2, ⟨z, hz, l3, h3, h4⟩, h5⟩ := h
    simp only [Option.some.injEq] at h3 h4 h5
    subst h3 h4 h5
    obtain ⟨e1, e2⟩ := mapM_range_get h1
    refine ⟨by simp [e1], fun i hi => ?_⟩
    rcases Nat.lt_or_ge i n with h' | h'
    · rw [List.getElem?_append_left (by omega)]; exact e2 i h'
    · have : i = n := by omega
      subst this
      rw [List.getElem?_append_right (by omega), e1, hz]
      simp
theorem cells_get {w : World} {a : Addr} {n : Nat} {cs : List Value} (h : w.cells? base a n = some cs) : cs.length = n ∧ ∀ j, j < n → w.cell? (a.add j) = cs[j]? := by
  unfold World.cells? at h
  split at h
  · exact mapM_range_get h
  · cases h
/-- A slice, whose elements are read one by one. -/
theorem trod_slc {α : Type} {e : α → List Value} {Pα : α → Prop} {w : World} {t el sz fuel : Nat} {cs : List Value} {x : DataW H × List MemPlace} (ht : P.underlying t = some (.slice el)) (hsz : P.cellsOf el = sz) (hpos : 0 < sz) (he : ∀ y, (e y).length = sz)
    (hel : ∀ n cs x, DataW.trod enc P w base spare held n el cs = some x → ∃ y, cs = e y ∧ Pα y) (h : DataW.trod enc P w base spare held fuel t cs = some x) :
    ∃ (A : Option Addr) (len cap : Nat) (ys : List α), cs = [.slice A len cap] ∧ len = ys.length ∧ len ≤ cap ∧ cap ≤ 9223372036854775807 ∧ (∀ i (h : i < ys.length), Pα (ys[i]'h)) ∧ (slc e sz A ys).on (fun b => b < w.heap.size) w := by
  rcases DataW.trod_slice ht h with ⟨rfl, rfl⟩ | ⟨a, len, cap, elems, rest, n, _, rfl, rfl, hb, hl, hm, hlen, hel', hsp, hns⟩
  · exact ⟨none, 0, 0, [], rfl, rfl, Nat.le_refl _, by decide, fun i h => absurd h (Nat.not_lt_zero i), .inl rfl⟩
  · have each : ∀ i, i < len → ∃ y : α, Pα y ∧ ∀ j, j < sz → w.cell? ((a.add (i * sz)).add j) = (e y)[j]? := by
      intro i hi
      have h1 := hel' i hi
      rw [hsz] at h1
      have h2 : elems[i]? = some (elems[i]'(by omega)) := List.getElem?_eq_getElem (by omega)
      rw [h2] at h1
      obtain ⟨cs', hc, ht'⟩ := Option.bind_eq_some_iff.1 h1
      obtain ⟨y, rfl, hy⟩ := hel n _ _ ht'
      exact ⟨y, hy, (cells_get hc).2⟩
    obtain ⟨ys, hys, hQ⟩ := exists_list (Q := fun i y => Pα y ∧ ∀ j, j < sz → w.cell? ((a.add (i * sz)).add j) = (e y)[j]?) len each
    refine ⟨some a, len, cap, ys, rfl, hys.symm, hl, hm, fun i h => (hQ i h).1, ?_⟩
    rcases Nat.eq_zero_or_pos len with h0 | h0
    · left
      exact List.length_eq_zero_iff.1 (by omega)
    · right
      have hz : 0 < ys.length := by omega
      have c0 := (hQ 0 hz).2 0 hpos
      have e0 : (e ys[0])[0]? = some ((e ys[0])[0]'(by rw [he]; exact hpos)) := List.getElem?_eq_getElem _
      rw [Nat.zero_mul, e0] at c0
      have a0 : (a.add 0).add 0 = a := by simp [Addr.add]
      rw [a0] at c0
      have hs : a.spot = none ∧ ∃ c t fr, w.heap[a.block]? = some (.cells c t fr) := by
        unfold World.cell? at c0
        split at c0
        · rename_i c t fr hh
          split at c0
          · cases c0
          · rename_i hn
            exact ⟨by simpa using hn, c, t, fr, hh⟩
        · cases c0
      obtain ⟨hsp', c, t', fr, hh⟩ := hs
      obtain ⟨b, o, s⟩ := a
      simp only at hsp' hh
      subst hsp'
      refine ⟨b, o, rfl, (Array.getElem?_eq_some_iff.1 hh).1, c, t', fr, hh, fun i hi j hj => ?_⟩
      have := (hQ i hi).2 j hj
      rw [add_plain, add_plain] at this
      unfold World.cell? at this
      simp only [hh] at this
      simpa using this

/-- The types of the arguments. -/
structure NumTy (P : Program) (nt ar sl ft it : Nat) : Prop where
  un : (P.underlying nt).bind structL = some [(it, 0), (ar, 1), (ar, 3), (it, 5), (it, 6), (sl, 7)]
  ua : P.underlying ar = some (.array 2 it)
  us : P.underlying sl = some (.slice ft)
  uf : P.underlying ft = some (.array 5 it)
  ui : P.underlying it = some (.int .i64)
  cn : P.cellsOf nt = 8
  ca : P.cellsOf ar = 2
  cs : P.cellsOf sl = 1
  cf : P.cellsOf ft = 5
  ci : P.cellsOf it = 1
def numsL (u : Nums) (A : Option Addr) (m cap : Nat) : List Value := [.int .i64 u.holder, .int .i64 u.r0, .int .i64 u.r1, .int .i64 u.s0, .int .i64 u.s1, .int .i64 u.carrier, .int .i64 u.serial, .slice A m cap]
theorem lst2 {α : Type} {l : List α} (h : l.length = 2) : ∃ a b, l = [a, b] := by
  match l, h with
  | [a, b], _ => exact ⟨a, b, rfl⟩
theorem lst5 {α : Type} {l : List α} (h : l.length = 5) : ∃ a b c d e, l = [a, b, c, d, e] := by
  match l, h with
  | [a, b, c, d, e], _ => exact ⟨a, b, c, d, e, rfl⟩
theorem lst8 {α : Type} {l : List α} (h : l.length = 8) : ∃ a b c d e f g i, l = [a, b, c, d, e, f, g, i] := by
  match l, h with
  | [a, b, c, d, e, f, g, i], _ => exact ⟨a, b, c, d, e, f, g, i, rfl⟩
variable {nt ar sl ft it : Nat}
theorem NumTy.pair (E : NumTy P nt ar sl ft it) {w : World} {fuel : Nat} {cs : List Value} {x : DataW H × List MemPlace} (h : DataW.trod enc P w base spare held fuel ar cs = some x) : ∃ a b, cs = [.int .i64 a, .int .i64 b] ∧ I64R a ∧ I64R b := by
  obtain ⟨n, h1, h2⟩ := trod_elems E.ua h
  rw [E.ca] at h1
  obtain ⟨c0, c1, rfl⟩ := lst2 h1
  simp only [E.ci, Nat.mul_one] at h2
  obtain ⟨y0, k0⟩ := h2 0 (Nat.le_of_ble_eq_true rfl)
  obtain ⟨y1, k1⟩ := h2 1 (Nat.le_of_ble_eq_true rfl)
  obtain ⟨a, e0, w0⟩ := trod_i64 E.ui k0
  obtain ⟨b, e1, w1⟩ := trod_i64 E.ui k1
  simp at e0 e1
  exact ⟨a, b, by rw [e0, e1], w0, w1⟩
theorem NumTy.five (E : NumTy P nt ar sl ft it) {w : World} {fuel : Nat} {cs : List Value} {x : DataW H × List MemPlace} (h : DataW.trod enc P w base spare held fuel ft cs = some x) : ∃ y : Five, cs = fiveL y ∧ FiveOk y := by
  obtain ⟨n, h1, h2⟩ := trod_elems E.uf h
  rw [E.cf] at h1
  obtain ⟨c0, c1, c2, c3, c4, rfl⟩ := lst5 h1
  simp only [E.ci, Nat.mul_one] at h2
  obtain ⟨y0, k0⟩ := h2 0 (Nat.le_of_ble_eq_true rfl)
  obtain ⟨y1, k1⟩ := h2 1 (Nat.le_of_ble_eq_true rfl)
  obtain ⟨y2, k2⟩ := h2 2 (Nat.le_of_ble_eq_true rfl)
  obtain ⟨y3, k3⟩ := h2 3 (Nat.le_of_ble_eq_true rfl)
  obtain ⟨y4, k4⟩ := h2 4 (Nat.le_of_ble_eq_true rfl)
  obtain ⟨a, e0, w0⟩ := trod_i64 E.ui k0
  obtain ⟨b, e1, w1⟩ := trod_i64 E.ui k1
  obtain ⟨c, e2, w2⟩ := trod_i64 E.ui k2
  obtain ⟨d, e3, w3⟩ := trod_i64 E.ui k3
  obtain ⟨e, e4, w4⟩ := trod_i64 E.ui k4
  simp at e0 e1 e2 e3 e4
  exact ⟨⟨a, b, c, d, e⟩, by rw [e0, e1, e2, e3, e4]; rfl, w0, w1, w2, w3, w4⟩
theorem NumTy.nums (E : NumTy P nt ar sl ft it) {w : World} {fuel : Nat} {cs : List Value} {x : DataW H × List MemPlace} (h : DataW.trod enc P w base spare held fuel nt cs = some x) :
    ∃ (u : Nums) (A : Option Addr) (m cap : Nat), cs = numsL u A m cap ∧ m = u.chain.length ∧ NumsOk u ∧ u.chain.length ≤ 9223372036854775807 ∧ (slc fiveL 5 A u.chain).on (fun b => b < w.heap.size) w := by
  obtain ⟨n, h1, h2⟩ := trod_fields E.un h
  rw [E.cn] at h1
  obtain ⟨c0, c1, c2, c3, c4, c5, c6, c7, rfl⟩ := lst8 h1
  obtain ⟨y0, k0⟩ := h2 0 (Nat.le_of_ble_eq_true rfl)
  obtain ⟨y1, k1⟩ := h2 1 (Nat.le_of_ble_eq_true rfl)
  obtain ⟨y2, k2⟩ := h2 2 (Nat.le_of_ble_eq_true rfl)
  obtain ⟨y3, k3⟩ := h2 3 (Nat.le_of_ble_eq_true rfl)
  obtain ⟨y4, k4⟩ := h2 4 (Nat.le_of_ble_eq_true rfl)
  obtain ⟨y5, k5⟩ := h2 5 (Nat.le_of_ble_eq_true rfl)
  simp only [List.getElem_cons_zero, List.getElem_cons_succ, E.ci, E.ca, E.cs] at k0 k1 k2 k3 k4 k5
  obtain ⟨a0, e0, w0⟩ := trod_i64 E.ui k0
  obtain ⟨a1, b1, e1, w1, v1⟩ := E.pair k1
  obtain ⟨a2, b2, e2, w2, v2⟩ := E.pair k2
  obtain ⟨a3, e3, w3⟩ := trod_i64 E.ui k3
  obtain ⟨a4, e4, w4⟩ := trod_i64 E.ui k4
  obtain ⟨A, len, cap, ys, e5, hlen, hl, hc, hP, hon⟩ := trod_slc (e := fiveL) (Pα := FiveOk) E.us E.cf (by decide) (fun _ => rfl) (fun _ _ _ h => E.five h) k5
  simp at e0 e1 e2 e3 e4 e5
  obtain ⟨e10, e11⟩ := e1
  obtain ⟨e20, e21⟩ := e2
  refine ⟨⟨a0, a1, b1, a2, b2, a3, a4, ys⟩, A, len, cap, ?_, hlen, ⟨⟨w0, w1, v1, w2, v2, w3, w4⟩, hP⟩, by dsimp only; omega, hon⟩
  rw [e0, e10, e11, e20, e21, e3, e4, e5]
  rfl
theorem trod_u8 {w : World} {t fuel : Nat} {cs : List Value} {x : DataW H × List MemPlace} (ht : P.underlying t = some (.int .u8)) (h : DataW.trod enc P w base spare held fuel t cs = some x) : ∃ n : UInt8, cs = [.int .u8 n.toNat] := by
  obtain ⟨n, h1, _, h2⟩ := DataW.trod_int ht h
  have h3 : 0 ≤ n ∧ n ≤ 255 := by simpa [Lit.wf, IntKind.min, IntKind.max, IntKind.signed, IntKind.bits] using h2
  refine ⟨UInt8.ofNat n.toNat, by rw [h1]; simp only [UInt8.toNat_ofNat', List.cons.injEq, Value.int.injEq, true_and, and_true]; omega⟩
/-- The listed variable: a row of 32-bit words. -/
theorem u32s_of {w : World} {t e m fuel : Nat} {cs : List Value} {ps : List MemPlace} {zs : List Int} (hu : P.underlying t = some (.array m e)) (he : P.underlying e = some (.int .u32)) (hc : P.cellsOf e = 1) (hz : zs.length = m)
    (h : DataW.trod enc P w base spare held fuel t cs = some (.agg (zs.map fun z => .lit (.int .u32 z)), ps)) (hct : P.cellsOf t = m) : cs = zs.map (.int .u32 ·) := by
  obtain ⟨xs, n, _, ex, hlen, hl, hel⟩ := DataW.trod_array hu h
  have e1 : (DataW.agg (zs.map fun z => DataW.lit (Lit.int .u32 z)) : DataW H) = .agg (xs.map (·.1)) := (Prod.mk.inj ex).1
  have e2 : zs.map (fun z => DataW.lit (Lit.int .u32 z)) = xs.map (·.1) := DataW.agg.inj e1
  apply List.ext_getElem?
  intro i
  by_cases hi : i < m
  · have h1 := hel i hi
    rw [hc, Nat.mul_one] at h1
    have hx : xs[i]? = some (xs[i]'(by omega)) := List.getElem?_eq_getElem (by omega)
    rw [hx] at h1
    obtain ⟨z, hz1, hz2, _⟩ := DataW.trod_int he h1
    have e3 := congrArg (fun l => l[i]?) e2
    simp only [List.getElem?_map, hx, Option.map_some, hz2] at e3
    have hzi : zs[i]? = some (zs[i]'(by omega)) := List.getElem?_eq_getElem (by omega)
    rw [hzi] at e3
    simp only [Option.map_some, Option.some.injEq, DataW.lit.injEq, Lit.int.injEq, true_and] at e3
    have hcs : i < cs.length := by rw [hlen, hct]; exact hi
    have h5 : cs[i]? = some (.int .u32 z) := by
      have := congrArg (fun l => l[0]?) hz1
      simpa [List.getElem?_take, List.getElem?_drop] using this
    rw [h5, List.getElem?_map, hzi, Option.map_some, e3]
  · rw [List.getElem?_eq_none (by rw [hlen, hct]; omega), List.getElem?_eq_none (by simp; omega)]
end
/-- The way from the contract to the statement's inner form. -/
theorem returns_law {H : Type} {enc : TypeId × Value → H} {C : Checked} {os : Os} {f : FuncId} {fn : Func} {s : ChangeSpec} {laid : List (String × DataW Unit)} {tb k : Nat}
    (own : ownKnob C.prog.godebug = none) (started : os.Started) (noInit : C.prog.inits.idxOf? f = none) (hfn : C.prog.funcs[f]? = some fn) (hl : laidOutB C.prog = true)
    (witness : ∃ (w : World) (tape : Tape) (i : Input), w.os = os ∧ (w.forCall tape i).Shaped C.prog ∧ i.vars = [] ∧ Input.okWide C.prog (w.forCall tape i) .any w.heap.size f i ∧
      ((s.pre enc C.prog fn [] false (w.forCall tape i).memory i.args ∧ laidMetH C.prog laid (w.forCall tape i).memory) ∧ sizedMet enc C.prog fn (OpenSpec.ofChange s) false (w.forCall tape i).memory i.args) ∧ ({} : Assume).holds C.prog (lone (Frame.enter C.prog f i.args .normal) [] (w.forCall tape i)))
    (hres : fn.resultTypes = #[tb]) (htb : C.prog.underlying tb = some .bool) (hts : (fn.params.toList.all fun t => C.prog.readableRec t && decide (t < C.prog.types.size)) = true) (hv : s.vars = []) (hk : fn.params.toList.length = k)
    (hs : ∀ ds : List (DataW H), ds.length = k → s.fn H ds = { results := [.lit (.bool true)], args := ds })
    (hcall : ∀ (W : World) (base : Nat) (args : Array Value) (ds : List (DataW H)) (p : List MemPlace), (∀ (j : Nat) t v, fn.params[j]? = some t → args[j]? = some v → Value.okWide C.prog W .any base t v) →
      DataW.TrodAll enc C.prog W 0 (fun _ => true) true fn.params.toList args.toList ds p → laidMetH C.prog laid W → W.ShapedOpen C.prog → ∃ G, Cv C.prog f args G (.bool true) ∧ ∀ X ∈ G, X.on (fun b => b < W.heap.size) W) :
    ReturnsInHanded {} C os f .any (fun w args => (s.pre enc C.prog fn [] false w args ∧ laidMetH C.prog laid w) ∧ sizedMet enc C.prog fn (OpenSpec.ofChange s) false w args) (s.post enc C.prog fn false true false false) := by
  refine returnsInHanded_of_calls own started noInit witness ?_
  intro w tape i _ hsh _ hok hpre hholds
  obtain ⟨_, _, _, fn', hfn', _, _, _, _, hval⟩ := hok
  have e : fn' = fn := Option.some.inj (hfn'.symm.trans hfn)
  subst e
  obtain ⟨⟨⟨ds, gs, before, hw, _⟩, hx⟩, hz⟩ := hpre
  have hw' := DataW.Whole.of_heap (w' := w.forCall tape i) (by rfl) hw
  have hL : laidMetH C.prog laid (w.forCall tape i) := laidMetH.of_heap (by rfl) hx
  have hw2 := hw'
  obtain ⟨p, q, hA, hV, rfl, _, _⟩ := hw2
  obtain ⟨G, hc, hG⟩ := hcall (w.forCall tape i) w.heap.size i.args ds p hval hA hL hsh
  refine (hc (w.forCall tape i) (fun _ => False) (fun X hX => X.keep (fun b hb => ⟨⟨hb, fun h => h⟩, rfl⟩) (hG X hX)) trivial (fun _ h => h.elim)).mono fun e W' ⟨_, _, he, hO, _⟩ => ?_
  subst he
  have hb := hO.below
  have hlen := (trodAll_length hA).2
  obtain ⟨rfl, rfl⟩ : gs = [] ∧ q = [] := by
    rw [hv] at hV
    exact trodVars_none hV
  have e1 := hs ds (by rw [hlen, hk])
  refine ChangeSpec.post_blind ⟨ds, [], p ++ [], [], p, [], hw', ?_, ?_, ?_, hb.frame _, fun h => by cases h⟩
  · rw [List.append_nil, e1, hres]
    exact trodAll_mk1 (shut_bool htb true)
  · rw [List.append_nil, e1]
    exact trodAll_below hl hb hts hA
  · rw [List.append_nil, e1, hv]
    exact rfl
section
variable {H : Type} {enc : TypeId × Value → H} {P : Program} {W : World} {base : Nat}
theorem trodAll_get : ∀ {ts : List TypeId} {vs : List Value} {ds : List (DataW H)} {ps : List MemPlace}, DataW.TrodAll enc P W 0 (fun _ => true) true ts vs ds ps → ∀ (j : Nat) (t : TypeId) (v : Value), ts[j]? = some t → vs[j]? = some v → ∃ d p, DataW.Trod enc P W 0 (fun _ => true) true t v d p
  | [], _, _, _, _, j, t, v, ht, _ => by simp at ht
  | _ :: _, [], _, _, h, _, _, _, _, _ => h.elim
  | _ :: _, _ :: _, [], _, h, _, _, _, _, _ => h.elim
  | t0 :: ts, v0 :: vs, d0 :: ds, ps, ⟨p, q, h1, h2, _⟩, j, t, v, ht, hv => by
    cases j with
    | zero =>
      simp only [List.getElem?_cons_zero, Option.some.injEq] at ht hv
      subst ht hv
      exact ⟨_, _, h1⟩
    | succ j => exact trodAll_get h2 j t v (by simpa using ht) (by simpa using hv)
abbrev Arg (enc : TypeId × Value → H) (P : Program) (W : World) (base : Nat) (t : TypeId) (v : Value) : Prop := Value.okWide P W .any base t v ∧ ∃ d p, DataW.Trod enc P W 0 (fun _ => true) true t v d p
theorem args_of {params : List TypeId} {args : Array Value} {ds : List (DataW H)} {ps : List MemPlace} (hval : ∀ (j : Nat) t v, params[j]? = some t → args[j]? = some v → Value.okWide P W .any base t v) (h : DataW.TrodAll enc P W 0 (fun _ => true) true params args.toList ds ps) :
    args.toList.length = params.length ∧ ∀ (j : Nat) t v, params[j]? = some t → args.toList[j]? = some v → Arg enc P W base t v :=
  ⟨(trodAll_length h).1, fun j t v ht hv => ⟨hval j t v ht (by simpa using hv), trodAll_get h j t v ht hv⟩⟩
theorem Arg.i64 {t : TypeId} {v : Value} (ht : P.underlying t = some (.int .i64)) (h : Arg enc P W base t v) : ∃ n, v = .int .i64 n ∧ I64R n := by
  obtain ⟨n, rfl⟩ := okWide_int ht h.1
  obtain ⟨d, p, f, h2⟩ := h.2
  obtain ⟨m, e, hw⟩ := trod_i64 ht h2
  have e' : n = m := by simpa [Value.cells] using e
  exact ⟨n, rfl, by rw [e']; exact hw⟩
theorem Arg.str {t : TypeId} {v : Value} (ht : P.underlying t = some .string) (h : Arg enc P W base t v) : ∃ l : Bytes, v = .string (str l) ∧ l.length ≤ 9223372036854775807 := by
  obtain ⟨n, rfl⟩ := okWide_string ht h.1
  obtain ⟨d, p, f, h2⟩ := h.2
  obtain ⟨m, e, hw⟩ := trod_str ht h2
  exact ⟨m, by simpa [Value.cells] using e, hw⟩
theorem Arg.u8 {t : TypeId} {v : Value} (ht : P.underlying t = some (.int .u8)) (h : Arg enc P W base t v) : ∃ c : UInt8, v = .int .u8 c.toNat := by
  obtain ⟨n, rfl⟩ := okWide_int ht h.1
  obtain ⟨d, p, f, h2⟩ := h.2
  obtain ⟨m, e⟩ := trod_u8 ht h2
  exact ⟨m, by simpa [Value.cells] using e⟩
theorem Arg.agg {t : TypeId} {v : Value} {l : List (Nat × Nat)} (hu : (P.underlying t).bind structL = some l) (h : Arg enc P W base t v) : ∃ cs, v = .agg cs := by
  have h1 := h.1
  cases hd : P.underlying t with
  | none => rw [hd] at hu; simp at hu
  | some d =>
    rw [hd] at hu
    cases d with
    | struct fs =>
      obtain ⟨cs, e, _⟩ := okWide_struct hd h1
      exact ⟨cs, e⟩
    | _ => simp [structL] at hu
theorem Arg.nums {nt ar sl ft it : Nat} {v : Value} (E : NumTy P nt ar sl ft it) (h : Arg enc P W base nt v) : ∃ (u : Nums) (A : Option Addr) (m cap : Nat), v = .agg (numsL u A m cap).toArray ∧ m = u.chain.length ∧ NumsOk u ∧ u.chain.length ≤ 9223372036854775807 ∧ (slc fiveL 5 A u.chain).on (fun b => b < W.heap.size) W := by
  obtain ⟨cs, rfl⟩ := h.agg E.un
  obtain ⟨d, p, f, h2⟩ := h.2
  obtain ⟨u, A, m, cap, e, hm, hx, hc, hs⟩ := E.nums h2
  have e' : cs.toList = numsL u A m cap := by simpa [Value.cells] using e
  exact ⟨u, A, m, cap, by rw [← e'], hm, hx, hc, hs⟩
theorem Arg.pair {nt ar sl ft it : Nat} {v : Value} (E : NumTy P nt ar sl ft it) (h : Arg enc P W base ar v) : ∃ a b, v = .agg #[.int .i64 a, .int .i64 b] ∧ I64R a ∧ I64R b := by
  obtain ⟨cs, rfl⟩ : ∃ cs, v = .agg cs := by
    have h1 := h.1
    unfold Value.okWide at h1
    rw [E.ua] at h1
    obtain ⟨cs, e, _⟩ := h1
    exact ⟨cs, e⟩
  obtain ⟨d, p, f, h2⟩ := h.2
  obtain ⟨a, b, e, ha, hb⟩ := E.pair h2
  have e' : cs.toList = [.int .i64 a, .int .i64 b] := by simpa [Value.cells] using e
  exact ⟨a, b, by rw [show cs = cs.toList.toArray from rfl, e'], ha, hb⟩
theorem glob_of {t e : Nat} {W : World} {name : String} {laid : List (String × DataW Unit)} {d : DataW Unit} {zs : List Int} {m : Nat} (hh : (laid.all fun x => x.2.handleName?.isNone) = true) (hlaid : laid = [(name, d)]) (hd : d = .agg (zs.map fun z => .lit (.int .u32 z))) (hz : zs.length = m)
    (hg : P.globalNamed name = some 0) (ht : (P.globals[0]?).map (·.type) = some t) (hg0 : Nat.blt 0 P.globals.size = true) (hbegin : ((((begin P (fun _ _ => 0) default).world.heap[0]?).bind Obj.row?).map (·.2)) = some t)
    (hu : P.underlying t = some (.array m e)) (he : P.underlying e = some (.int .u32)) (hc : P.cellsOf e = 1) (hct : P.cellsOf t = m)
    (h : laidMetH P laid W) (hsh : W.ShapedOpen P) : (glob 0 (zs.map (.int .u32 ·)).toArray t).on (fun b => b < W.heap.size) W := by
  rw [MakeChecks.laidMetH_plain _ _ _ hh] at h
  obtain ⟨ps, hp, _, _⟩ := h
  rw [hlaid] at hp
  obtain ⟨g, t', cs, fuel, p, q, hg', ht', hv, hd', _, _⟩ := hp
  obtain rfl := Option.some.inj (hg.symm.trans hg')
  obtain rfl := Option.some.inj (ht.symm.trans ht')
  rw [hd] at hd'
  have hcs := u32s_of hu he hc hz hd' hct
  cases hz0 : ((begin P (fun _ _ => 0) default).world.heap[0]?).bind Obj.row? with
  | none => rw [hz0] at hbegin; simp at hbegin
  | some zt =>
    obtain ⟨zero, t''⟩ := zt
    rw [hz0] at hbegin
    have : t'' = t := by simpa using hbegin
    subst this
    obtain ⟨cs', hheap, _⟩ := hsh.1 0 zero t'' (Nat.le_of_ble_eq_true hg0) hz0
    unfold World.var? at hv
    rw [hg] at hv
    simp only [Option.bind_some, hheap, Option.some.injEq] at hv
    subst hv
    refine ⟨(Array.getElem?_eq_some_iff.1 hheap).1, (0, 0), ?_⟩
    rw [hheap, ← hcs]
end
end Go.TL
end
