/- What the proof of WishMatchesReference leans on, part 3: a small program logic, plain facts, walks of functions. No statement of the seat is proved here. -/
import Derived.Test.YtlcbpicpociipaaGreatDoorB2
import Derived.Test.YtlcbpicpociipaaGreatDoorProg
section
/- Regions that draw their order, in which operations (append, store) turn pieces that the region has made. No program is named here. -/
set_option linter.unusedVariables false
set_option linter.unusedSimpArgs false
namespace Go.TL
section
variable {γ : Type}
def coL (co : Nat → Option Nat) (listed : Array Bool) (p : Nat) : Bool := match co p with
  | none => false
  | some j => isL listed j
def enY (co : Nat → Option Nat) (sp : List (Spec γ)) (listed : Array Bool) (ρ : Nat → γ) (p : Nat) : Asn := bif (isL listed p && !(coL co listed p)) then (sp.getD p dspec).c ρ else emp
def mixLy (co : Nat → Option Nat) (pr : Nat → Nat → Bool) (sp : List (Spec γ)) (L0 : List Asn) (m j : Nat) (ρ : Nat → γ) (X : Nat → Asn) : List Asn :=
  (List.range m).map (fun p => bif (pr j p && (co p).isNone) then (sp.getD p dspec).c ρ else X p) ++ L0
def lLy (co : Nat → Option Nat) (sp : List (Spec γ)) (L0 : List Asn) (m : Nat) (listed : Array Bool) (ρ : Nat → γ) : List Asn := (List.range m).map (enY co sp listed ρ) ++ L0
def fullLy (co : Nat → Option Nat) (sp : List (Spec γ)) (L0 : List Asn) (m : Nat) (ρ : Nat → γ) : List Asn := (List.range m).map (fun p => bif (co p).isNone then (sp.getD p dspec).c ρ else emp) ++ L0
theorem enY_new {co : Nat → Option Nat} {sp : List (Spec γ)} {listed : Array Bool} {ρ : Nat → γ} {p : Nat} (h : isL listed p = true) (hc : ∀ q, co p = some q → isL listed q = false) : enY co sp listed ρ p = (sp.getD p dspec).c ρ := by
  have : coL co listed p = false := by
    unfold coL
    cases e : co p with
    | none => rfl
    | some q => exact hc q e
  simp only [enY, h, this, Bool.not_false, Bool.and_true, _root_.cond_true]
theorem enY_dead {co : Nat → Option Nat} {sp : List (Spec γ)} {listed : Array Bool} {ρ : Nat → γ} {p q : Nat} (h : co p = some q) (hq : isL listed q = true) : enY co sp listed ρ p = emp := by
  simp only [enY, coL, h, hq, Bool.not_true, Bool.and_false, _root_.cond_false]
theorem enY_same {co : Nat → Option Nat} {sp : List (Spec γ)} {listed listed' : Array Bool} {ρ ρ' : Nat → γ} {p : Nat} (h : isL listed' p = isL listed p) (hc : ∀ q, co p = some q → isL listed' q = isL listed q) (hs : isL listed p = true → (sp.getD p dspec).c ρ' = (sp.getD p dspec).c ρ) : enY co sp listed' ρ' p = enY co sp listed ρ p := by
  have e : coL co listed' p = coL co listed p := by
    unfold coL
    cases e : co p with
    | none => rfl
    | some q => exact hc q e
  unfold enY
  rw [h, e]
  cases hb : isL listed p with
  | false => simp only [Bool.false_and, _root_.cond_false]
  | true => rw [hs hb]
theorem lLy_set {co : Nat → Option Nat} {sp : List (Spec γ)} {L0 : List Asn} {m : Nat} {listed : Array Bool} {ρ ρ' : Nat → γ} {j : Nat} (hj : j < m) (hjs : j < listed.size) (hnl : isL listed j = false) (hnc : ∀ i, co i ≠ some j) (hcons : ∀ q, co j = some q → isL listed q = false)
    (hsame : ∀ p, p ≠ j → isL listed p = true → (sp.getD p dspec).c ρ' = (sp.getD p dspec).c ρ) :
    (lLy co sp L0 m listed ρ).set j ((sp.getD j dspec).c ρ') = lLy co sp L0 m (listed.setIfInBounds j true) ρ' := by
  have hlj : isL (listed.setIfInBounds j true) j = true := by simp [isL, Array.getD_eq_getD_getElem?, hjs]
  have hl : ∀ p, p ≠ j → isL (listed.setIfInBounds j true) p = isL listed p := fun p e => by simp [isL, Array.getD_eq_getD_getElem?, Array.getElem?_setIfInBounds_ne (fun h => e h.symm)]
  unfold lLy
  rw [List.set_append_left _ _ (by simpa using hj)]
  congr 1
  apply List.ext_getElem?
  intro p
  by_cases hp : p < m
  · by_cases e : p = j
    · subst e
      rw [List.getElem?_set]
      simp only [List.length_map, List.length_range, hp, if_true, List.getElem?_map, List.getElem?_range hp, Option.map_some]
      rw [enY_new hlj (fun q hq => by rw [hl q (fun e => by subst e; exact hnc _ hq)]; exact hcons q hq)]
    · rw [List.getElem?_set_ne (fun h => e h.symm)]
      simp only [List.getElem?_map, List.getElem?_range hp, Option.map_some]
      rw [enY_same (hl p e) (fun q hq => hl q (fun eq => hnc p (eq ▸ hq))) (hsame p e)]
  · simp [hp]
end
section
variable {P : Program} {r : Option Nat} {n : Nat} {ds : List Deferred} {S0 : Nat → Prop} {w0 : World} {G L0 : List Asn} {f0 : Env} {Q : Exit → Act → World → Prop} {ops : Array Oper} {γ : Type} {m : Nat} {wr : Nat → Option Nat} {pr : Nat → Nat → Bool} {R : List Nat} {co : Nat → Option Nat}
def ObPy (P : Program) (r : Option Nat) (n : Nat) (ds : List Deferred) (S0 : Nat → Prop) (w0 : World) (G : List Asn) (ops : Array Oper) (m : Nat) (wr : Nat → Option Nat) (pr : Nat → Nat → Bool) (co : Nat → Option Nat) (L0 : List Asn) (f0 : Env) (sp : List (Spec γ)) (j : Nat) (o : Oper) (s : Spec γ) : Prop :=
  ∀ (ρ : Nat → γ) (g : Env) (X : Nat → Asn) (Q' : Exit → Act → World → Prop), TO P r n ds S0 w0 G ops Q' [] (mixLy co pr sp L0 m j ρ X) (put (mixE wr pr sp f0 j ρ g) o.dst (s.v ρ)) → TO P r n ds S0 w0 G ops Q' [o] (mixLy co pr sp L0 m j ρ X) (mixE wr pr sp f0 j ρ g)
def ObRy (P : Program) (r : Option Nat) (n : Nat) (ds : List Deferred) (S0 : Nat → Prop) (w0 : World) (G : List Asn) (ops : Array Oper) (m : Nat) (wr : Nat → Option Nat) (pr : Nat → Nat → Bool) (co : Nat → Option Nat) (L0 : List Asn) (f0 : Env) (sp : List (Spec γ)) (j : Nat) (o : Oper) (s : Spec γ) : Prop :=
  ∀ (ρ : Nat → γ) (g : Env) (X : Nat → Asn) (Q' : Exit → Act → World → Prop), (∀ x, TO P r n ds S0 w0 G ops Q' [] (s.c (gupd ρ j x) :: mixLy co pr sp L0 m j ρ X) (put (mixE wr pr sp f0 j ρ g) o.dst (s.v (gupd ρ j x)))) → TO P r n ds S0 w0 G ops Q' [o] (mixLy co pr sp L0 m j ρ X) (mixE wr pr sp f0 j ρ g)
def ObTy (P : Program) (r : Option Nat) (n : Nat) (ds : List Deferred) (S0 : Nat → Prop) (w0 : World) (G : List Asn) (ops : Array Oper) (m : Nat) (wr : Nat → Option Nat) (pr : Nat → Nat → Bool) (co : Nat → Option Nat) (L0 : List Asn) (f0 : Env) (sp : List (Spec γ)) (i j : Nat) (o : Oper) (s : Spec γ) : Prop :=
  ∀ (ρ : Nat → γ) (g : Env) (X : Nat → Asn) (Q' : Exit → Act → World → Prop), X i = (sp.getD i dspec).c ρ → (∀ x, TO P r n ds S0 w0 G ops Q' [] (s.c (gupd ρ j x) :: mixLy co pr sp L0 m j ρ (fun p => bif Nat.beq p i then emp else X p)) (put (mixE wr pr sp f0 j ρ g) o.dst (s.v (gupd ρ j x)))) → TO P r n ds S0 w0 G ops Q' [o] (mixLy co pr sp L0 m j ρ X) (mixE wr pr sp f0 j ρ g)
structure Owedy (P : Program) (r : Option Nat) (n : Nat) (ds : List Deferred) (S0 : Nat → Prop) (w0 : World) (G : List Asn) (ops : Array Oper) (m : Nat) (wr : Nat → Option Nat) (pr : Nat → Nat → Bool) (co : Nat → Option Nat) (R : List Nat) (L0 : List Asn) (f0 : Env) (sp : List (Spec γ)) (j : Nat) (s : Spec γ) : Prop where
  ind : Ind pr R j s
  ob : ∃ o, ops[j]? = some o ∧ ((ObPy P r n ds S0 w0 G ops m wr pr co L0 f0 sp j o s ∧ j ∉ R ∧ (∀ ρ, s.c ρ = emp) ∧ ∀ i, co i ≠ some j) ∨ (ObRy P r n ds S0 w0 G ops m wr pr co L0 f0 sp j o s ∧ j ∈ R ∧ ∀ i, co i ≠ some j) ∨ (∃ i, co i = some j ∧ (∀ i', co i' = some j → i' = i) ∧ ObTy P r n ds S0 w0 G ops m wr pr co L0 f0 sp i j o s ∧ j ∈ R))
def DRy (P : Program) (r : Option Nat) (n : Nat) (ds : List Deferred) (S0 : Nat → Prop) (w0 : World) (G : List Asn) (Q : Exit → Act → World → Prop) (ops : Array Oper) (m : Nat) (wr : Nat → Option Nat) (pr : Nat → Nat → Bool) (co : Nat → Option Nat) (R : List Nat) (L0 : List Asn) (f0 : Env) (j : Nat) (sp : List (Spec γ)) : Prop :=
  sp.length = j ∧ ∃ sp', sp.length + sp'.length = m ∧ (∀ k, k < sp'.length → Owedy P r n ds S0 w0 G ops m wr pr co R L0 f0 (sp ++ sp'.take k) (sp.length + k) (sp'.getD k dspec)) ∧
    ∀ ρ, TO P r n ds S0 w0 G ops Q (ops.toList.drop m) (fullLy co (sp ++ sp') L0 m ρ) (fullE wr (sp ++ sp') f0 ρ)
theorem DRy.step {j : Nat} {sp : List (Spec γ)} (s : Spec γ) (hsp : sp.length = j) (ho : Owedy P r n ds S0 w0 G ops m wr pr co R L0 f0 sp j s) (h : DRy P r n ds S0 w0 G Q ops m wr pr co R L0 f0 (j + 1) (sp ++ [s])) : DRy P r n ds S0 w0 G Q ops m wr pr co R L0 f0 j sp := by
  obtain ⟨h1, sp', h2, h3, h4⟩ := h
  refine ⟨hsp, s :: sp', by simp at h2 ⊢; omega, fun k hk => ?_, fun ρ => by have := h4 ρ; simpa using this⟩
  cases k with
  | zero => simp only [List.take_zero, List.append_nil, Nat.add_zero, hsp]; exact ho
  | succ k =>
    have := h3 k (by simpa using hk)
    simp only [List.length_append, List.length_cons, List.length_nil] at this
    simp only [List.take_succ_cons]
    rw [show sp.length + (k + 1) = sp.length + (0 + 1) + k from by omega, show sp ++ s :: List.take k sp' = sp ++ [s] ++ List.take k sp' from by simp]
    simpa using this
theorem DRy.done {sp : List (Spec γ)} (hsp : sp.length = m) (h : ∀ ρ, TO P r n ds S0 w0 G ops Q (ops.toList.drop m) (fullLy co sp L0 m ρ) (fullE wr sp f0 ρ)) : DRy P r n ds S0 w0 G Q ops m wr pr co R L0 f0 m sp :=
  ⟨hsp, [], by simpa using hsp, fun k hk => by simp at hk, fun ρ => by simpa using h ρ⟩
theorem T.drawY (hmix : P.follows .mixedOrders = true) {id : Nat} (wrl : List (Nat × Nat)) (prl R : List Nat) (hok : drawOk ops.toList m wrl prl = true) (hco : ∀ i j, co i = some j → prOf prl j i = true) (hcm : ∀ i j, co i = some j → j < m)
    (h : DRy P r n ds S0 w0 G Q ops m (wrOf wrl) (prOf prl) co R L0 f0 0 ([] : List (Spec γ))) [Inhabited γ] : T P r n ds S0 w0 G Q (.region id ops true) L0 f0 := fun w hw => by
  have hd := DrawOk.of hok
  generalize wrOf wrl = wr at *
  generalize prOf prl = pr at *
  obtain ⟨_, sp, hlen, hob, hfin⟩ := h
  simp only [List.length_nil, Nat.zero_add, List.nil_append] at hlen hob hfin
  refine wpIn_region_any hmix ?_
  -- the invariant
  let Cl : Array Bool → Prop := fun listed => ∀ q, isL listed q = true → ∀ p, pr q p = true → isL listed p = true
  let Hd : Array Bool → Act → World → Prop := fun listed a w => (∀ k, m ≤ k → isL listed k = false) ∧ ∃ ρ, a = act n (lE wr sp f0 listed ρ) ds ∧ St S0 w0 G (lLy co sp L0 m listed ρ) w
  let Tl : Array Bool → Act → World → Prop := fun listed a w => ∃ k, m ≤ k ∧ k ≤ ops.size ∧ (∀ j, j < k → isL listed j = true) ∧ (∀ j, k ≤ j → isL listed j = false) ∧ wpL P r ops Q (ops.toList.drop k) a w
  have hready : ∀ (listed : Array Bool) (j : Nat), Cl listed → j ∈ Region.ready .any ops listed → ∀ p, pr j p = true → isL listed p = true := by
    intro listed j hcl hj p hp
    obtain ⟨_, _, o, ho, he⟩ := mem_ready' hj
    obtain ⟨_, e, hmem, hb, hor⟩ := hd.clos j o ho p hp
    rcases hor with rfl | hpr
    · exact he e hmem hb
    · exact hcl e.on (he e hmem hb) p hpr
  have toTl : ∀ (listed : Array Bool) (a : Act) (w : World), (∀ j, j < m → isL listed j = true) → Hd listed a w → Tl listed a w := by
    rintro listed a w hall ⟨hnot, ρ, rfl, hst⟩
    refine ⟨m, Nat.le_refl _, hd.hm, hall, hnot, ?_⟩
    have e1 : lE wr sp f0 listed ρ = fullE wr sp f0 ρ := by
      funext t
      simp only [lE, fullE]
      cases hw : wr t with
      | none => rfl
      | some p => simp only [hall p (hd.wrm t p hw).1, _root_.cond_true]
    have e2 : lLy co sp L0 m listed ρ = fullLy co sp L0 m ρ := by
      unfold lLy fullLy
      congr 1
      apply List.map_congr_left
      intro p hp
      have hpm : p < m := by simpa using hp
      cases hc : co p with
      | none => simp only [enY, coL, hc, hall p hpm, Option.isNone_none, Bool.not_false, Bool.and_true]
      | some q => simp only [enY, coL, hc, hall q (hcm p q hc), Option.isNone_some, Bool.not_true, Bool.and_false, _root_.cond_false]
    rw [e1]
    rw [e2] at hst
    exact hfin ρ w hst
  have main : ∀ (fuel : Nat) (listed : Array Bool) (a : Act) (w : World), listed.size = ops.size → listed.toList.countP (fun b => !b) ≤ fuel → Cl listed → (Hd listed a w ∨ Tl listed a w) → wpAnyIn (Wd r) 0 P .any ops Q fuel listed a w := by
    have hend : ∀ (listed : Array Bool) (a : Act) (w : World), listed.size = ops.size → Cl listed → (Hd listed a w ∨ Tl listed a w) → Region.ready .any ops listed = [] → Q .normal a w := by
      intro listed a w hsz hcl hI hr
      have hall : ∀ j, j < ops.size → isL listed j = true := by
        intro j
        induction j using Nat.strongRecOn with
        | _ j ih =>
          intro hj
          cases hb : isL listed j with
          | true => rfl
          | false =>
            exfalso
            have : j ∈ Region.ready .any ops listed := by
              simp only [Region.ready, List.mem_filter, List.mem_range, Bool.and_eq_true, Bool.not_eq_true', hj, true_and]
              refine ⟨?_, ?_⟩
              · have hj' : j < listed.size := by omega
                simp only [isL, Array.getD_eq_getD_getElem?, hj', Array.getElem?_eq_getElem, Option.getD_some] at hb ⊢
                exact hb
              · simp only [hj, Array.getElem?_eq_getElem, Option.map_some, Option.getD_some, Array.all_eq_true']
                intro e he
                cases hbe : Region.binds .any e with
                | false => rfl
                | true =>
                  have hlt := hd.back j ops[j] (by simp [hj]) e he hbe
                  have := ih e.on hlt (by omega)
                  simpa [isL] using this
            rw [hr] at this
            cases this
      have hT : Tl listed a w := hI.elim (fun h => toTl listed a w (fun j hj => hall j (Nat.lt_of_lt_of_le hj hd.hm)) h) (fun h => h)
      obtain ⟨k, hk1, hk2, _, hk4, hk5⟩ := hT
      have hk : k = ops.size := by
        rcases Nat.lt_or_ge k ops.size with h | h
        · have h1 := hk4 k (Nat.le_refl _)
          rw [hall k h] at h1
          cases h1
        · omega
      subst hk
      rw [List.drop_eq_nil_of_le (by simp)] at hk5
      exact hk5
    intro fuel
    induction fuel with
    | zero =>
      intro listed a w hsz hc hcl hI
      have hr : Region.ready .any ops listed = [] := by
        cases hr : Region.ready .any ops listed with
        | nil => rfl
        | cons x xs =>
          exfalso
          obtain ⟨h1, h2, _⟩ := mem_ready' (listed := listed) (j := x) (ops := ops) (by rw [hr]; simp)
          have hx : x < listed.size := by omega
          simp only [Array.getD_eq_getD_getElem?, hx, Array.getElem?_eq_getElem, Option.getD_some] at h2
          have : 0 < listed.toList.countP (fun b => !b) := List.countP_pos_iff.2 ⟨listed[x], by simp, by simp [h2]⟩
          omega
      exact ⟨hr, hend listed a w hsz hcl hI hr⟩
    | succ fuel ih =>
      intro listed a w hsz hc hcl hI
      refine ⟨hend listed a w hsz hcl hI, fun i hi => ?_⟩
      obtain ⟨hi1, hi2, o, ho, hedge⟩ := mem_ready' hi
      have his : i < listed.size := by omega
      have hnl : isL listed i = false := by
        simp only [isL, Array.getD_eq_getD_getElem?, his, Array.getElem?_eq_getElem, Option.getD_some] at hi2 ⊢
        exact hi2
      have hcount : (listed.setIfInBounds i true).toList.countP (fun b => !b) ≤ fuel := by
        have h2' : listed.toList[i]'(by simpa using his) = false := by
          simp only [Array.getD_eq_getD_getElem?, his, Array.getElem?_eq_getElem, Option.getD_some] at hi2
          simpa using hi2
        have := List.countP_set (p := fun b : Bool => !b) (l := listed.toList) (i := i) (a := true) (h := by simpa using his)
        simp only [h2', Bool.not_false, Bool.not_true, if_true] at this
        rw [Array.toList_setIfInBounds, this]
        simp only [Bool.false_eq_true, if_false]
        have hpos : 0 < listed.toList.countP (fun b => !b) := List.countP_pos_iff.2 ⟨listed.toList[i]'(by simpa using his), List.getElem_mem _, by simp [h2']⟩
        omega
      have hsz' : (listed.setIfInBounds i true).size = ops.size := by simpa using hsz
      have hlj : isL (listed.setIfInBounds i true) i = true := by simp [isL, Array.getD_eq_getD_getElem?, his]
      have hl : ∀ p, p ≠ i → isL (listed.setIfInBounds i true) p = isL listed p := fun p e => by simp [isL, Array.getD_eq_getD_getElem?, Array.getElem?_setIfInBounds_ne (fun h => e h.symm)]
      have hcl' : Cl (listed.setIfInBounds i true) := by
        intro q hq p hp
        by_cases ep : p = i
        · rw [ep]; exact hlj
        · rw [hl p ep]
          by_cases eq : q = i
          · subst eq; exact hready listed q hcl hi p hp
          · rw [hl q eq] at hq; exact hcl q hq p hp
      have next : ∀ a' w', (Hd (listed.setIfInBounds i true) a' w' ∨ Tl (listed.setIfInBounds i true) a' w') → wpAnyIn (Wd r) 0 P .any ops Q fuel (listed.setIfInBounds i true) a' w' := fun a' w' h => ih _ a' w' hsz' hcount hcl' h
      -- the tail's step
      have tailStep : Tl listed a w → wpOpIn (Wd r) 0 P ops Q i (wpAnyIn (Wd r) 0 P .any ops Q fuel (listed.setIfInBounds i true)) a w := by
        rintro ⟨k, hk1, hk2, hk3, hk4, hk5⟩
        have hik : i = k := by
          rcases Nat.lt_trichotomy i k with h | h | h
          · rw [hk3 i h] at hnl; cases hnl
          · exact h
          · have := hready listed i hcl hi k (hd.tail i (by omega) hi1 k h)
            rw [hk4 k (Nat.le_refl _)] at this
            cases this
        subst hik
        have hdrop : ops.toList.drop i = o :: ops.toList.drop (i + 1) := by
          rw [List.drop_eq_getElem_cons (by simpa using hi1)]
          congr 1
          have := Array.getElem?_eq_some_iff.1 ho
          obtain ⟨_, h⟩ := this
          simpa using h
        rw [hdrop] at hk5
        have nextT : ∀ a' w', wpL P r ops Q (ops.toList.drop (i + 1)) a' w' → wpAnyIn (Wd r) 0 P .any ops Q fuel (listed.setIfInBounds i true) a' w' := fun a' w' h =>
          next a' w' (.inr ⟨i + 1, by omega, by omega, fun j hj => by
            by_cases e : j = i
            · rw [e]; exact hlj
            · rw [hl j e]; exact hk3 j (by omega), fun j hj => by rw [hl j (by omega)]; exact hk4 j (by omega), h⟩)
        simp only [wpL] at hk5
        simp only [wpOpIn, ho]
        split
        · rename_i hw'
          rw [if_pos hw'] at hk5
          exact Oper.wpIn_mono nextT hk5
        · rename_i hw'
          rw [if_neg hw'] at hk5
          exact ⟨fun _ _ => trivial, nextT _ _ hk5⟩
      rcases hI with hH | hT
      · by_cases him : i < m
        · -- a step of the head
          obtain ⟨hnot, ρ, rfl, hst⟩ := hH
          have hlt : i < sp.length := by omega
          obtain ⟨hind, o', ho', hob'⟩ := hob i hlt
          rw [ho] at ho'
          cases ho'
          have hpl : ∀ p, pr i p = true → isL listed p = true := hready listed i hcl hi
          have hpi : ∀ p, pr i p = true → p < i := fun p hp => (hd.clos i o ho p hp).1
          have hgd : ∀ p, p < i → (sp.take i).getD p dspec = sp.getD p dspec := fun p hp => by simp [List.getD_eq_getElem?_getD, List.getElem?_take, hp]
          have eE : mixE wr pr (sp.take i) f0 i ρ (lE wr sp f0 listed ρ) = lE wr sp f0 listed ρ := by
            funext t
            simp only [mixE, lE]
            cases hw : wr t with
            | none => rfl
            | some p =>
              cases hp : pr i p with
              | true => simp only [hp, _root_.cond_true, hpl p hp, hgd p (hpi p hp)]
              | false =>
                cases hq : (pr p i || Nat.beq p i) with
                | false => simp only [hp, hq, _root_.cond_false]
                | true =>
                  have : isL listed p = false := by
                    rcases Bool.or_eq_true_iff.1 hq with h | h
                    · cases hb : isL listed p with
                      | false => rfl
                      | true => rw [hcl p hb i h] at hnl; cases hnl
                    · rw [Nat.eq_of_beq_eq_true h]; exact hnl
                  simp only [hp, hq, _root_.cond_false, _root_.cond_true, this]
          have eL : mixLy co pr (sp.take i) L0 m i ρ (enY co sp listed ρ) = lLy co sp L0 m listed ρ := by
            unfold mixLy lLy
            congr 1
            apply List.map_congr_left
            intro p _
            cases hp : pr i p with
            | true =>
              cases hc : co p with
              | none => simp only [Option.isNone_none, Bool.and_true, _root_.cond_true, enY, coL, hc, hpl p hp, hgd p (hpi p hp), Bool.not_false]
              | some q => simp only [Option.isNone_some, Bool.and_false, _root_.cond_false]
            | false => simp only [Bool.false_and, _root_.cond_false]
          have hcons : ∀ q, co i = some q → isL listed q = false := fun q hq => by
            cases hb : isL listed q with
            | false => rfl
            | true => rw [hcl q hb i (hco i q hq)] at hnl; cases hnl
          have hnot' : ∀ k, m ≤ k → isL (listed.setIfInBounds i true) k = false := fun k hk => by rw [hl k (by omega)]; exact hnot k hk
          -- what is done abides another ghost of i
          have hsame : ∀ p, p ≠ i → isL listed p = true → i ∈ R → ∀ x, (sp.getD p dspec).v (gupd ρ i x) = (sp.getD p dspec).v ρ ∧ (sp.getD p dspec).c (gupd ρ i x) = (sp.getD p dspec).c ρ := by
            intro p hp hpl' hiR x
            by_cases hps : p < sp.length
            · refine (hob p hps).ind i hiR (fun e => hp e.symm) ?_ ρ x
              cases hb : pr p i with
              | false => rfl
              | true => rw [hcl p hpl' i hb] at hnl; cases hnl
            · have : sp.getD p dspec = dspec := by simp [List.getD_eq_getElem?_getD, List.getElem?_eq_none (Nat.not_lt.1 hps)]
              rw [this]
              exact ⟨rfl, rfl⟩
          have conclude : TO P r n ds S0 w0 G ops (fun e a' w' => match e with | .normal => wpAnyIn (Wd r) 0 P .any ops Q fuel (listed.setIfInBounds i true) a' w' | e => Q e a' w') [o] (lLy co sp L0 m listed ρ) (lE wr sp f0 listed ρ) → wpOpIn (Wd r) 0 P ops Q i (wpAnyIn (Wd r) 0 P .any ops Q fuel (listed.setIfInBounds i true)) (act n (lE wr sp f0 listed ρ) ds) w := by
            intro hto
            have h1 := hto w hst
            simp only [wpL] at h1
            simp only [wpOpIn, ho]
            split
            · rename_i hw'
              rw [if_pos hw'] at h1
              refine ⟨fun _ _ => trivial, ?_⟩
              have h2 := h1.2
              generalize (Oper.semAt (Wd r).round (act n (lE wr sp f0 listed ρ) ds).eval o).run P w = z at h2 ⊢
              cases z with
              | ok y w' =>
                cases y <;> simp only [Oper.uponIn] at h2 ⊢ <;> first
                  | exact h2
                  | exact ⟨h2.1, CallsIn.mono h2.2 (fun e w'' he => by cases e <;> first | exact he | (obtain ⟨a0, w0', hq⟩ := he; exact ⟨a0, w0', hq⟩))⟩
                  | exact ⟨h2.1, RoundIn.mono h2.2 (fun e w'' he => by cases e <;> first | exact he | (obtain ⟨a0, w0', hq⟩ := he; exact ⟨a0, w0', hq⟩))⟩
              | halt y w' => cases y <;> simp only [Oper.uponIn] at h2 ⊢ <;> exact h2
            · rename_i hw'
              rw [if_neg hw'] at h1
              exact ⟨fun _ _ => trivial, h1⟩
          have hemp_i : (lLy co sp L0 m listed ρ)[i]? = some emp := by
            unfold lLy
            rw [List.getElem?_append_left (by simpa using him)]
            simp [him, enY, hnl]
          rcases hob' with ⟨hP, hnR, hemp, hnc⟩ | ⟨hR, hiR, hnc⟩ | ⟨i0, hi0, huniq, hT, hiR⟩
          · refine conclude ?_
            have := hP ρ (lE wr sp f0 listed ρ) (enY co sp listed ρ) (fun e a' w' => match e with | .normal => wpAnyIn (Wd r) 0 P .any ops Q fuel (listed.setIfInBounds i true) a' w' | e => Q e a' w')
            rw [eE, eL] at this
            refine this fun w' hst' => ?_
            show wpAnyIn (Wd r) 0 P .any ops Q fuel (listed.setIfInBounds i true) _ w'
            refine next _ _ (.inl ⟨hnot', ρ, ?_, ?_⟩)
            · rw [lE_set hd ho him his (fun _ _ _ => rfl)]
            · rw [← lLy_set (ρ' := ρ) him his hnl hnc hcons (fun _ _ _ => rfl), hemp]
              refine hst'.conv fun S w'' hs => ?_
              have hset : (lLy co sp L0 m listed ρ).set i emp = lLy co sp L0 m listed ρ := by
                apply List.ext_getElem?
                intro q
                by_cases e : q = i
                · subst e; rw [hemp_i, List.getElem?_set]; simp [(List.getElem?_eq_some_iff.1 hemp_i).1]
                · rw [List.getElem?_set_ne (fun h => e h.symm)]
              rw [hset]
              exact hs
          · refine conclude ?_
            have := hR ρ (lE wr sp f0 listed ρ) (enY co sp listed ρ) (fun e a' w' => match e with | .normal => wpAnyIn (Wd r) 0 P .any ops Q fuel (listed.setIfInBounds i true) a' w' | e => Q e a' w')
            rw [eE, eL] at this
            refine this fun x w' hst' => ?_
            show wpAnyIn (Wd r) 0 P .any ops Q fuel (listed.setIfInBounds i true) _ w'
            refine next _ _ (.inl ⟨hnot', gupd ρ i x, ?_, ?_⟩)
            · rw [lE_set hd ho him his (fun p hp hpl' => (hsame p hp hpl' hiR x).1)]
            · rw [← lLy_set him his hnl hnc hcons (fun p hp hpl' => (hsame p hp hpl' hiR x).2)]
              refine hst'.conv fun S w'' hs => ?_
              exact Seps.put_emp i hemp_i hs
          · refine conclude ?_
            have hpi0 : pr i i0 = true := hco i0 i hi0
            have hX : enY co sp listed ρ i0 = ((sp.take i).getD i0 dspec).c ρ := by
              rw [hgd i0 (hpi i0 hpi0)]
              simp only [enY, coL, hi0, hpl i0 hpi0, hnl, Bool.not_false, Bool.and_true, _root_.cond_true]
            have := hT ρ (lE wr sp f0 listed ρ) (enY co sp listed ρ) (fun e a' w' => match e with | .normal => wpAnyIn (Wd r) 0 P .any ops Q fuel (listed.setIfInBounds i true) a' w' | e => Q e a' w') hX
            rw [eE, eL] at this
            refine this fun x w' hst' => ?_
            show wpAnyIn (Wd r) 0 P .any ops Q fuel (listed.setIfInBounds i true) _ w'
            have hi0m : i0 < m := Nat.lt_trans (hpi i0 hpi0) him
            have hne0 : i0 ≠ i := Nat.ne_of_lt (hpi i0 hpi0)
            refine next _ _ (.inl ⟨hnot', gupd ρ i x, ?_, ?_⟩)
            · rw [lE_set hd ho him his (fun p hp hpl' => (hsame p hp hpl' hiR x).1)]
            · refine hst'.conv fun S w'' hs => ?_
              have e1 : mixLy co pr (sp.take i) L0 m i ρ (fun p => bif Nat.beq p i0 then emp else enY co sp listed ρ p) = (lLy co sp L0 m listed ρ).set i0 emp := by
                rw [← eL]
                unfold mixLy
                rw [List.set_append_left _ _ (by simpa using hi0m)]
                congr 1
                apply List.ext_getElem?
                intro p
                by_cases hp : p < m
                · by_cases e : p = i0
                  · subst e
                    simp [hp, hi0]
                  · rw [List.getElem?_set_ne (fun h => e h.symm)]
                    simp only [List.getElem?_map, List.getElem?_range hp, Option.map_some, beq_false e, _root_.cond_false]
                · simp [hp]
              rw [e1] at hs
              have h3 := Seps.put_emp (L := (lLy co sp L0 m listed ρ).set i0 emp) i (by rw [List.getElem?_set_ne hne0]; exact hemp_i) hs
              have e2 : ((lLy co sp L0 m listed ρ).set i0 emp).set i ((sp.getD i dspec).c (gupd ρ i x)) = lLy co sp L0 m (listed.setIfInBounds i true) (gupd ρ i x) := by
                unfold lLy
                rw [List.set_append_left _ _ (by simpa using hi0m), List.set_append_left _ _ (by simpa using him)]
                congr 1
                apply List.ext_getElem?
                intro p
                by_cases hp : p < m
                · by_cases e : p = i
                  · subst e
                    rw [List.getElem?_set]
                    simp only [List.length_set, List.length_map, List.length_range, hp, if_true, List.getElem?_map, List.getElem?_range hp, Option.map_some]
                    rw [enY_new hlj (fun q hq => by rw [hl q (fun e => by subst e; have := hpi _ (hco _ _ hq); omega)]; exact hcons q hq)]
                  · rw [List.getElem?_set_ne (fun h => e h.symm)]
                    by_cases e' : p = i0
                    · subst e'
                      rw [List.getElem?_set]
                      simp only [List.length_map, List.length_range, hp, if_true, List.getElem?_map, List.getElem?_range hp, Option.map_some]
                      rw [enY_dead hi0 hlj]
                    · rw [List.getElem?_set_ne (fun h => e' h.symm)]
                      simp only [List.getElem?_map, List.getElem?_range hp, Option.map_some]
                      rw [enY_same (hl p e) (fun q hq => hl q (fun eq => e' (huniq p (eq ▸ hq)))) (fun hb => (hsame p e hb hiR x).2)]
                · simp [hp]
              rw [e2] at h3
              exact h3
        · -- the tail begins
          refine tailStep (toTl listed a w (fun j hj => ?_) hH)
          exact hready listed i hcl hi j (hd.tail i (Nat.not_lt.1 him) hi1 j (by omega))
      · exact tailStep hT
  refine main ops.size _ _ _ (by simp) ?_ (fun q hq => by simp [isL, Array.getD_eq_getD_getElem?, Array.getElem?_replicate] at hq; split at hq <;> simp at hq) (.inl ⟨fun k _ => ?_, fun _ => default, ?_, ?_⟩)
  · exact Nat.le_trans List.countP_le_length (by simp)
  · simp only [isL, Array.getD_eq_getD_getElem?, Array.getElem?_replicate]; split <;> rfl
  · congr 1
    funext t
    simp only [lE]
    cases wr t with
    | none => rfl
    | some p =>
      have : isL (Array.replicate ops.size false) p = false := by simp only [isL, Array.getD_eq_getD_getElem?, Array.getElem?_replicate]; split <;> rfl
      simp only [this, _root_.cond_false]
  · refine (hw.drew).conv fun S w' hs => ?_
    have hall : ∀ p, isL (Array.replicate ops.size false) p = false := fun p => by simp only [isL, Array.getD_eq_getD_getElem?, Array.getElem?_replicate]; split <;> rfl
    have : lLy co sp L0 m (Array.replicate ops.size false) (fun _ => default) = (List.range m).map (fun _ => emp) ++ L0 := by
      unfold lLy
      congr 1
      apply List.map_congr_left
      intro p _
      simp only [enY, hall p, Bool.false_and, _root_.cond_false]
    rw [this]
    clear this
    refine Seps.app (S1 := fun _ => False) (S2 := S) (fun _ h => h.elim) (fun _ h => h) (fun _ h => h.elim) ?_ hs
    generalize List.range m = l
    induction l with
    | nil => trivial
    | cons q l ih => exact ⟨fun _ => False, fun _ => False, fun _ h => h, fun _ h => h, fun _ h => h.elim, trivial, ih⟩
end
section
variable {P : Program} {r : Option Nat} {n : Nat} {ds : List Deferred} {S0 : Nat → Prop} {w0 : World} {G L0 : List Asn} {f0 : Env} {Q : Exit → Act → World → Prop} {ops : Array Oper} {m : Nat} {wrl : List (Nat × Nat)} {prl R : List Nat} {col : List (Nat × Nat)}
def DY (P : Program) (r : Option Nat) (n : Nat) (ds : List Deferred) (S0 : Nat → Prop) (w0 : World) (G : List Asn) (Q : Exit → Act → World → Prop) (ops : Array Oper) (m : Nat) (wrl : List (Nat × Nat)) (prl R : List Nat) (col : List (Nat × Nat)) (L0 : List Asn) (f0 : Env) (j : Nat) (F : Nat → (Nat → Gh) → Value) (C : Nat → (Nat → Gh) → Asn) : Prop :=
  DrawOk ops m (wrOf wrl) (prOf prl) → DRy P r n ds S0 w0 G Q ops m (wrOf wrl) (prOf prl) (wrOf col) R L0 f0 j (gspec F C j)
theorem fmLen {α : Type} {e : α → List Value} {sz : Nat} (he : ∀ x, (e x).length = sz) : ∀ (xs : List α), (xs.flatMap e).length = xs.length * sz
  | [] => by simp
  | x :: xs => by rw [List.flatMap_cons, List.length_append, he, fmLen he xs, List.length_cons, Nat.add_mul]; omega
theorem take_over {α : Type} (c v : List α) {a s b : Nat} (hv : v.length = s) (h1 : a + s ≤ b) (h2 : b ≤ c.length) : (c.take a ++ v ++ c.drop (a + s)).take b = (c.take b).take a ++ v ++ (c.take b).drop (a + s) := by
  rw [List.take_append, List.take_of_length_le (by rw [List.length_append, List.length_take]; omega), List.take_take, Nat.min_eq_left (by omega)]
  congr 1
  rw [List.length_append, List.length_take, hv, Nat.min_eq_left (by omega), List.drop_take]
def cOk (m : Nat) (prl : List Nat) (col : List (Nat × Nat)) : Bool := col.all fun x => prOf prl x.2 x.1 && decide (x.2 < m)
theorem wrOf_mem {l : List (Nat × Nat)} {i j : Nat} (h : wrOf l i = some j) : (i, j) ∈ l := by
  simp only [wrOf, Option.map_eq_some_iff] at h
  obtain ⟨⟨a, b⟩, h1, rfl⟩ := h
  have h2 := List.find?_some h1
  simp only [beq_iff_eq] at h2
  subst h2
  exact List.mem_of_find?_eq_some h1
theorem T.drawy (hmix : P.follows .mixedOrders = true) {id : Nat} (m : Nat) (wrl : List (Nat × Nat)) (prl R : List Nat) (col : List (Nat × Nat)) (hok : (drawOk ops.toList m wrl prl && cOk m prl col) = true)
    (h : DY P r n ds S0 w0 G Q ops m wrl prl R col L0 f0 0 (fun _ _ => undef) (fun _ _ => emp)) : T P r n ds S0 w0 G Q (.region id ops true) L0 f0 := by
  rw [Bool.and_eq_true] at hok
  have hc : ∀ i j, wrOf col i = some j → prOf prl j i = true ∧ j < m := fun i j hij => by
    have := List.all_eq_true.1 hok.2 _ (wrOf_mem hij)
    rw [Bool.and_eq_true, decide_eq_true_eq] at this
    exact this
  exact T.drawY (γ := Gh) hmix wrl prl R hok.1 (fun i j h => (hc i j h).1) (fun i j h => (hc i j h).2) (h (DrawOk.of hok.1))
def ncB (col : List (Nat × Nat)) (j : Nat) : Bool := col.all fun x => !(Nat.beq x.2 j)
theorem ncB_of {j : Nat} (h : ncB col j = true) (i : Nat) : wrOf col i ≠ some j := fun e => by
  have := List.all_eq_true.1 h _ (wrOf_mem e)
  simp at this
theorem DY.put {j : Nat} {F : Nat → (Nat → Gh) → Value} {C : Nat → (Nat → Gh) → Asn} {o : Oper} (hj : ops[j]? = some o) (hR : (R.contains j || !(ncB col j)) = false) (v : Value)
    (ho : ∀ (ρ : Nat → Gh) (g : Env) (M : List Asn) (Q' : Exit → Act → World → Prop), TO P r n ds S0 w0 G ops Q' [] (M ++ L0) (put (mixG wrl prl F f0 j ρ g) o.dst v) → TO P r n ds S0 w0 G ops Q' [o] (M ++ L0) (mixG wrl prl F f0 j ρ g))
    (h : DY P r n ds S0 w0 G Q ops m wrl prl R col L0 f0 (j + 1) (updF F j (fun _ => v)) (updF C j (fun _ => emp))) : DY P r n ds S0 w0 G Q ops m wrl prl R col L0 f0 j F C := fun hd => by
  rw [Bool.or_eq_false_iff] at hR
  refine DRy.step ⟨fun _ => v, fun _ => emp⟩ (by simp [gspec]) ⟨fun i hi _ _ ρ x => ⟨rfl, rfl⟩, o, hj, .inl ⟨?_, by simpa using hR.1, fun _ => rfl, ncB_of (by simpa using hR.2)⟩⟩ ?_
  · intro ρ g X Q' h'
    rw [mixG_eq hd hj] at h' ⊢
    exact ho ρ g _ Q' h'
  · rw [← gspec_succ]
    exact h hd
theorem DY.new {j : Nat} {F : Nat → (Nat → Gh) → Value} {C : Nat → (Nat → Gh) → Asn} {o : Oper} (hj : ops[j]? = some o) (hR : (R.contains j && ncB col j) = true) (V : Gh → Value) (c : Gh → Asn)
    (ho : ∀ (ρ : Nat → Gh) (g : Env) (M : List Asn) (Q' : Exit → Act → World → Prop), (∀ x : Gh, TO P r n ds S0 w0 G ops Q' [] (c x :: (M ++ L0)) (TL.put (mixG wrl prl F f0 j ρ g) o.dst (V x))) → TO P r n ds S0 w0 G ops Q' [o] (M ++ L0) (mixG wrl prl F f0 j ρ g))
    (h : DY P r n ds S0 w0 G Q ops m wrl prl R col L0 f0 (j + 1) (updF F j (fun ρ => V (ρ j))) (updF C j (fun ρ => c (ρ j)))) : DY P r n ds S0 w0 G Q ops m wrl prl R col L0 f0 j F C := fun hd => by
  rw [Bool.and_eq_true] at hR
  have hg : ∀ (ρ : Nat → Gh) (x : Gh), gupd ρ j x j = x := fun ρ x => by simp [gupd]
  refine DRy.step ⟨fun ρ => V (ρ j), fun ρ => c (ρ j)⟩ (by simp [gspec]) ⟨fun i hi hne _ ρ x => ?_, o, hj, .inr (.inl ⟨?_, by simpa using hR.1, ncB_of hR.2⟩)⟩ ?_
  · have : gupd ρ i x j = ρ j := by simp only [gupd, beq_false (fun e => hne e.symm), _root_.cond_false]
    simp only [this, and_self]
  · intro ρ g X Q' h'
    rw [mixG_eq hd hj] at h' ⊢
    refine ho ρ g _ Q' fun x => ?_
    have := h' x
    simp only [hg] at this
    exact this
  · rw [← gspec_succ]
    exact h hd
/-- An operation that turns the piece that operation i has made. -/
def tuB (col : List (Nat × Nat)) (i j : Nat) : Bool := wrOf col i == some j && col.all fun x => !(Nat.beq x.2 j) || Nat.beq x.1 i
theorem DY.turn {j : Nat} {F : Nat → (Nat → Gh) → Value} {C : Nat → (Nat → Gh) → Asn} {o : Oper} (i : Nat) (hj : ops[j]? = some o) (hR : (R.contains j && tuB col i j && Nat.blt i j && Nat.blt i m) = true) (V : Gh → Value) (c : Gh → Asn)
    (ho : ∀ (ρ : Nat → Gh) (g : Env) (L : List Asn) (Q' : Exit → Act → World → Prop), (∀ X, Has G L0 X → Has G L X) → (∀ x : Gh, TO P r n ds S0 w0 G ops Q' [] (c x :: L) (TL.put (mixG wrl prl F f0 j ρ g) o.dst (V x))) → TO P r n ds S0 w0 G ops Q' [o] (C i ρ :: L) (mixG wrl prl F f0 j ρ g))
    (h : DY P r n ds S0 w0 G Q ops m wrl prl R col L0 f0 (j + 1) (updF F j (fun ρ => V (ρ j))) (updF C j (fun ρ => c (ρ j)))) : DY P r n ds S0 w0 G Q ops m wrl prl R col L0 f0 j F C := fun hd => by
  simp only [Bool.and_eq_true, tuB] at hR
  obtain ⟨⟨⟨hR, hc, hu⟩, hij⟩, him⟩ := hR
  have hij : i < j := Nat.le_of_ble_eq_true hij
  have him : i < m := Nat.le_of_ble_eq_true him
  have hc : wrOf col i = some j := by simpa using hc
  have hg : ∀ (ρ : Nat → Gh) (x : Gh), gupd ρ j x j = x := fun ρ x => by simp [gupd]
  refine DRy.step ⟨fun ρ => V (ρ j), fun ρ => c (ρ j)⟩ (by simp [gspec]) ⟨fun i hi hne _ ρ x => ?_, o, hj, .inr (.inr ⟨i, hc, fun i' h' => ?_, ?_, by simpa using hR⟩)⟩ ?_
  · have : gupd ρ i x j = ρ j := by simp only [gupd, beq_false (fun e => hne e.symm), _root_.cond_false]
    simp only [this, and_self]
  · have := List.all_eq_true.1 hu _ (wrOf_mem h')
    simpa using this
  · intro ρ g X Q' hX h'
    rw [mixG_eq hd hj] at h' ⊢
    rw [gspec_get F C hij] at hX
    have hget : (mixLy (wrOf col) (prOf prl) (gspec F C j) L0 m j ρ X)[i]? = some (C i ρ) := by
      unfold mixLy
      rw [List.getElem?_append_left (by simpa using him)]
      simp only [List.getElem?_map, List.getElem?_range him, Option.map_some, hc, Option.isNone_some, Bool.and_false, _root_.cond_false]
      rw [hX]
    have e4 : (mixLy (wrOf col) (prOf prl) (gspec F C j) L0 m j ρ X).set i emp = mixLy (wrOf col) (prOf prl) (gspec F C j) L0 m j ρ (fun p => bif Nat.beq p i then emp else X p) := by
      unfold mixLy
      rw [List.set_append_left _ _ (by simpa using him)]
      congr 1
      apply List.ext_getElem?
      intro q
      by_cases hq : q < m
      · by_cases e : q = i
        · subst e
          rw [List.getElem?_set]
          simp only [if_true, List.length_map, List.length_range, hq, List.getElem?_map, List.getElem?_range hq, Option.map_some]
          rw [hc]
          simp
        · rw [List.getElem?_set_ne (fun h => e h.symm)]
          simp only [List.getElem?_map, List.getElem?_range hq, Option.map_some, beq_false e, _root_.cond_false]
      · simp [hq]
    have h2 := ho ρ g ((mixLy (wrOf col) (prOf prl) (gspec F C j) L0 m j ρ X).set i emp) Q' (fun Y hY => by
      rw [e4]
      exact hY.appR) (fun x => by
      have := h' x
      simp only [hg] at this
      rw [e4]
      exact this)
    intro w hw
    refine h2 w (hw.conv fun S w hs => ?_)
    exact seps_take i hget (hs.add trivial)
  · rw [← gspec_succ]
    exact h hd
theorem DY.rd {j : Nat} {F : Nat → (Nat → Gh) → Value} {C : Nat → (Nat → Gh) → Asn} {o : Oper} {v : Value} (hj : ops.toList[j]? = some o) (hR : (R.contains j || !(ncB col j)) = false) (hg : o.guard = none)
    (ho : ∀ (ρ : Nat → Gh) (g : Env), Reads P G L0 o (ev n (mixG wrl prl F f0 j ρ g)) v)
    (h : DY P r n ds S0 w0 G Q ops m wrl prl R col L0 f0 (j + 1) (updF F j (fun _ => v)) (updF C j (fun _ => emp))) : DY P r n ds S0 w0 G Q ops m wrl prl R col L0 f0 j F C :=
  DY.put (by rw [← Array.getElem?_toList]; exact hj) hR v (fun ρ g M Q' h' => TO.read hg (ho ρ g).appR h') h
theorem DY.fn {j : Nat} {F : Nat → (Nat → Gh) → Value} {C : Nat → (Nat → Gh) → Asn} {d : Option Tmp} {ty : TypeId} {pos : String} {aft : Array Edge} {v : Value} {q : FuncId} {vs : List Value} {asx : Array Operand} {ats : Array TypeId} {G' : List Asn}
    (hj : ops.toList[j]? = some ⟨d, .call ⟨.value (.func q), asx, ats⟩, ty, pos, aft, none⟩) (hR : (R.contains j || !(ncB col j)) = false) (he : Enters P q) (hc : Cv P q vs.toArray G' v) (ha : ∀ ρ g, asx.toList.map (ev n (mixG wrl prl F f0 j ρ g)) = vs) (hG : ∀ X ∈ G', Has G L0 X)
    (h : DY P r n ds S0 w0 G Q ops m wrl prl R col L0 f0 (j + 1) (updF F j (fun _ => v)) (updF C j (fun _ => emp))) : DY P r n ds S0 w0 G Q ops m wrl prl R col L0 f0 j F C :=
  DY.put (by rw [← Array.getElem?_toList]; exact hj) hR v (fun ρ g M Q' h' => TO.fn he hc (ha ρ g) (fun X hX => (hG X hX).appR) h') h
theorem DY.buildS {j : Nat} {F : Nat → (Nat → Gh) → Value} {C : Nat → (Nat → Gh) → Asn} {d : Option Tmp} {ty : TypeId} {pos : String} {aft : Array Edge} {t e sz k : Nat} {ps : Array (Nat × Operand)} {z : Value} {cs : (Nat → Gh) → List Value} (D : List Nat) (hj : ops.toList[j]? = some ⟨d, .buildSlice t k ps, ty, pos, aft, none⟩) (hR : (R.contains j && ncB col j) = true)
    (ht : P.underlying t = some (.slice e)) (hs : ∀ w, (sizeOf e).run P w = .ok sz w) (hz : TyZero P e z) (hsmall : k * sz ≤ 16777216)
    (hfill : ∀ ρ g, fillM (fun i => some (i * sz, sz)) ((List.range (k * sz)).map (z.cells[· % z.cells.size]!)) 0 (ps.toList.map fun p => (p.1, ev n (mixG wrl prl F f0 j ρ g) p.2)) = some (cs ρ)) (hD : D.all (fun i => prOf prl j i && !(Nat.beq i j)) = true) (hind : ∀ ρ ρ' : Nat → Gh, (∀ i ∈ D, ρ i = ρ' i) → cs ρ = cs ρ')
    (h : DY P r n ds S0 w0 G Q ops m wrl prl R col L0 f0 (j + 1) (updF F j (fun ρ => .slice (some ⟨(ρ j).2, 0, none⟩) k k)) (updF C j (fun ρ => own (ρ j).2 (cs ρ).toArray e))) : DY P r n ds S0 w0 G Q ops m wrl prl R col L0 f0 j F C := fun hd => by
  rw [Bool.and_eq_true] at hR
  have hj' := hj
  rw [Array.getElem?_toList] at hj'
  have hg : ∀ (ρ : Nat → Gh) (x : Gh), gupd ρ j x j = x := fun ρ x => by simp [gupd]
  have hfar : ∀ i, (prOf prl j i = false ∨ i = j) → ∀ (ρ : Nat → Gh) (x : Gh), cs (gupd ρ i x) = cs ρ := fun i hi ρ x => hind _ _ fun q hq => by
    have h1 := List.all_eq_true.1 hD q hq
    rw [Bool.and_eq_true] at h1
    have hne : q ≠ i := by
      rintro rfl
      rcases hi with h2 | h2
      · rw [h2] at h1; cases h1.1
      · subst h2; simp at h1
    simp only [gupd, beq_false hne, _root_.cond_false]
  refine DRy.step ⟨fun ρ => .slice (some ⟨(ρ j).2, 0, none⟩) k k, fun ρ => own (ρ j).2 (cs ρ).toArray e⟩ (by simp [gspec]) ⟨fun i hi hne hpi ρ x => ?_, _, hj', .inr (.inl ⟨?_, by simpa using hR.1, ncB_of hR.2⟩)⟩ ?_
  · have : gupd ρ i x j = ρ j := by simp only [gupd, beq_false (fun e => hne e.symm), _root_.cond_false]
    simp only [this, hfar i (.inl hpi), and_self]
  · intro ρ g X Q' h'
    rw [mixG_eq hd hj'] at h' ⊢
    refine TO.buildS ht hs hz hsmall (hfill ρ g) fun b => ?_
    have := h' (none, b)
    simp only [hg, hfar j (.inr rfl)] at this
    exact this
  · rw [← gspec_succ]
    exact h hd
theorem DY.app {α : Type} {en : α → List Value} {j : Nat} {F : Nat → (Nat → Gh) → Value} {C : Nat → (Nat → Gh) → Asn} {d : Nat} {ty : TypeId} {pos : String} {aft : Array Edge} {t u e sz bytes k c' : Nat} {s x : Operand} {A' : Option Addr} {xs : List α} {cs : List Value} {q : Nat} (i : Nat) (hj : ops.toList[j]? = some ⟨some d, .call ⟨.builtin .append, #[s, x], #[t, u]⟩, ty, pos, aft, none⟩) (hR : (R.contains j && tuB col i j && Nat.blt i j && Nat.blt i m) = true)
    (hr : TyRow P e sz bytes) (ht : P.underlying t = some (.slice e)) (hu : (∃ e', P.underlying u = some (.slice e')) ∨ P.underlying u = some .string) (hC : C i = fun ρ => row e sz (ρ i).1 k (ρ i).2 cs)
    (hs : ∀ ρ g, ev n (mixG wrl prl F f0 j ρ g) s = .slice (ρ i).1 k (ρ i).2) (hx : ∀ ρ g, ev n (mixG wrl prl F f0 j ρ g) x = .slice A' q c') (hq : xs.length = q) (he : ∀ x, (en x).length = sz) (hS : Has G L0 (slc en sz A' xs)) (h1 : (xs.flatMap en).all (·.oneCell') = true) (hbytes : (k + q) * bytes ≤ 140737488355328)
    (h : DY P r n ds S0 w0 G Q ops m wrl prl R col L0 f0 (j + 1) (updF F j (fun ρ => .slice (ρ j).1 (k + q) (ρ j).2)) (updF C j (fun ρ => row e sz (ρ j).1 (k + q) (ρ j).2 (cs ++ xs.flatMap en)))) : DY P r n ds S0 w0 G Q ops m wrl prl R col L0 f0 j F C := by
  subst hq
  exact DY.turn i (by rw [← Array.getElem?_toList]; exact hj) hR (fun x => .slice x.1 (k + xs.length) x.2) (fun x => row e sz x.1 (k + xs.length) x.2 (cs ++ xs.flatMap en)) (fun ρ g L Q' hL h' => by
    rw [hC]
    exact TO.app hr ht hu (hs ρ g) (hx ρ g) (fun _ _ _ hw => Src.ofSlc he (Has.appR (M := [_]) (hL _ hS)) hw) (fmLen he xs) h1 hbytes fun A' cap' _ => h' (A', cap')) h
/-- The same, behind a literal slice. -/
theorem DY.appo {α : Type} {en : α → List Value} {j : Nat} {F : Nat → (Nat → Gh) → Value} {C : Nat → (Nat → Gh) → Asn} {d : Nat} {ty : TypeId} {pos : String} {aft : Array Edge} {t u e sz bytes k c' : Nat} {s x : Operand} {A' : Option Addr} {xs : List α} {cs : List Value} {q : Nat} (i : Nat) (hj : ops.toList[j]? = some ⟨some d, .call ⟨.builtin .append, #[s, x], #[t, u]⟩, ty, pos, aft, none⟩) (hR : (R.contains j && tuB col i j && Nat.blt i j && Nat.blt i m) = true)
    (hr : TyRow P e sz bytes) (ht : P.underlying t = some (.slice e)) (hu : (∃ e', P.underlying u = some (.slice e')) ∨ P.underlying u = some .string) (hC : C i = fun ρ => own (ρ i).2 cs.toArray e) (hl : cs.length = k * sz) (hk : k ≤ 9223372036854775807)
    (hs : ∀ ρ g, ev n (mixG wrl prl F f0 j ρ g) s = .slice (some ⟨(ρ i).2, 0, none⟩) k k) (hx : ∀ ρ g, ev n (mixG wrl prl F f0 j ρ g) x = .slice A' q c') (hq : xs.length = q) (he : ∀ x, (en x).length = sz) (hS : Has G L0 (slc en sz A' xs)) (h1 : (xs.flatMap en).all (·.oneCell') = true) (hbytes : (k + q) * bytes ≤ 140737488355328)
    (h : DY P r n ds S0 w0 G Q ops m wrl prl R col L0 f0 (j + 1) (updF F j (fun ρ => .slice (ρ j).1 (k + q) (ρ j).2)) (updF C j (fun ρ => row e sz (ρ j).1 (k + q) (ρ j).2 (cs ++ xs.flatMap en)))) : DY P r n ds S0 w0 G Q ops m wrl prl R col L0 f0 j F C := by
  subst hq
  exact DY.turn i (by rw [← Array.getElem?_toList]; exact hj) hR (fun x => .slice x.1 (k + xs.length) x.2) (fun x => row e sz x.1 (k + xs.length) x.2 (cs ++ xs.flatMap en)) (fun ρ g L Q' hL h' => by
    rw [hC]
    exact TO.torow0 sz k hl hk (TO.app hr ht hu (hs ρ g) (hx ρ g) (fun _ _ _ hw => Src.ofSlc he (Has.appR (M := [_]) (hL _ hS)) hw) (fmLen he xs) h1 hbytes fun A' cap' _ => h' (A', cap'))) h
theorem DY.done {F : Nat → (Nat → Gh) → Value} {C : Nat → (Nat → Gh) → Asn} {l : List Oper} (R' : List Nat) (hl : ops.toList.drop m = l) (hn : R'.Nodup) (hR : R'.all (fun j => Nat.blt j m && (wrOf col j).isNone) = true) (h : ∀ ρ : Nat → Gh, TO P r n ds S0 w0 G ops Q l (R'.map (fun j => C j ρ) ++ L0) (allG wrl F f0 ρ)) : DY P r n ds S0 w0 G Q ops m wrl prl R col L0 f0 m F C := fun hd => by
  refine DRy.done (by simp [gspec]) fun ρ => ?_
  have e : fullE (wrOf wrl) (gspec F C m) f0 ρ = allG wrl F f0 ρ := by
    funext t
    simp only [fullE, allG, wrL_eq]
    cases hw : wrOf wrl t with
    | none => rfl
    | some p => simp only; rw [gspec_get F C (hd.wrm t p hw).1]
  rw [e, hl]
  refine (h ρ).conv fun S w hs => ?_
  unfold fullLy at hs
  obtain ⟨S1, S2, h1, h2, h3, h4, h5⟩ := hs.split
  refine Seps.app h1 h2 h3 ?_ h5
  have := h4.sel hn
  have e2 : sel R' ((List.range m).map fun p => bif (wrOf col p).isNone then ((gspec F C m).getD p dspec).c ρ else emp) = R'.map fun j => C j ρ := by
    unfold sel
    apply List.map_congr_left
    intro j hj
    have h6 := List.all_eq_true.1 hR j hj
    rw [Bool.and_eq_true] at h6
    have hlt : j < m := Nat.le_of_ble_eq_true h6.1
    simp only [List.getD_eq_getElem?_getD, List.getElem?_map, List.getElem?_range, hlt, if_true, Option.map_some, Option.getD_some, h6.2, _root_.cond_true]
    have := gspec_get F C hlt
    simp only [List.getD_eq_getElem?_getD] at this
    rw [this]
  rw [e2] at this
  exact this
theorem T.rowcap {e k cap sz : Nat} {A : Option Addr} {cs : List Value} {c : Code} {L : List Asn} {f : Env} (h : k ≤ cap → cap ≤ 9223372036854775807 → T P r n ds S0 w0 G Q c (row e sz A k cap cs :: L) f) : T P r n ds S0 w0 G Q c (row e sz A k cap cs :: L) f := fun w hw => by
  obtain ⟨S1, S2, h1, h2, hd, ⟨c1, c2, c3, c4⟩, hr⟩ := hw.mem
  exact h c2 c3 w hw
theorem TO.rowcap {e k cap sz : Nat} {A : Option Addr} {cs : List Value} {l : List Oper} {L : List Asn} {f : Env} (h : k ≤ cap → cap ≤ 9223372036854775807 → TO P r n ds S0 w0 G ops Q l (row e sz A k cap cs :: L) f) : TO P r n ds S0 w0 G ops Q l (row e sz A k cap cs :: L) f := fun w hw => by
  obtain ⟨S1, S2, h1, h2, hd, ⟨c1, c2, c3, c4⟩, hr⟩ := hw.mem
  exact h c2 c3 w hw
theorem TO.appq {α : Type} {en : α → List Value} {t u e sz bytes k q c' : Nat} {s x : Operand} {A A' : Option Addr} {cap : Nat} {cs : List Value} {xs : List α} {d : Nat} {rest : List Oper} {R : List Asn} {f : Env} {ty : TypeId} {pos : String} {aft : Array Edge} (hr : TyRow P e sz bytes) (ht : P.underlying t = some (.slice e)) (hu : (∃ e', P.underlying u = some (.slice e')) ∨ P.underlying u = some .string)
    (hs : ev n f s = .slice A k cap) (hx : ev n f x = .slice A' q c') (hq : xs.length = q) (he : ∀ x, (en x).length = sz) (hS : Has G (row e sz A k cap cs :: R) (slc en sz A' xs)) (h1 : (xs.flatMap en).all (·.oneCell') = true) (hbytes : (k + q) * bytes ≤ 140737488355328)
    (h : ∀ A' cap', k + q ≤ cap' → TO P r n ds S0 w0 G ops Q rest (row e sz A' (k + q) cap' (cs ++ xs.flatMap en) :: R) (upd f d (.slice A' (k + q) cap'))) :
    TO P r n ds S0 w0 G ops Q (⟨some d, .call ⟨.builtin .append, #[s, x], #[t, u]⟩, ty, pos, aft, none⟩ :: rest) (row e sz A k cap cs :: R) f := by
  subst hq
  exact TO.app hr ht hu hs hx (fun _ _ _ hw => Src.ofSlc he hS hw) (fmLen he xs) h1 hbytes h
/-- A store to an element of a row. -/
theorem TO.rowset {t e sz k cap i : Nat} {x y : Operand} {A : Option Addr} {cs cs' : List Value} {v : Value} {rest : List Oper} {f : Env} {R : List Asn} {ty : TypeId} {pos : String} {aft : Array Edge} (hs : ∀ w, (sizeOf t).run P w = .ok sz w) (hx : ev n f x = pat A (i * sz)) (hy : ev n f y = v) (hk : v.cells.size = sz) (hi : i < k) (h1 : v.cells.toList.all (·.oneCell') = true) (hc : cs.take (i * sz) ++ v.cells.toList ++ cs.drop (i * sz + sz) = cs')
    (h : TO P r n ds S0 w0 G ops Q rest (row e sz A k cap cs' :: R) f) : TO P r n ds S0 w0 G ops Q (⟨none, .store t x y, ty, pos, aft, none⟩ :: rest) (row e sz A k cap cs :: R) f := fun w hw => by
  have hw' : Region.wanted ⟨none, .store t x y, ty, pos, aft, none⟩ (yielded ops (act n f ds).tmps) = true := rfl
  simp only [wpL, hw', if_true]
  refine ⟨fun _ _ => trivial, ?_⟩
  obtain ⟨S1, hlt, hA, hj⟩ := hw.at_ 0 rfl
  obtain ⟨c1, c2, c3, ⟨rfl, c4⟩ | ⟨gb, cur, fr, rfl, hg, hheap, hfr, hcs, htake⟩⟩ := hA
  · omega
  have hik : i * sz + sz ≤ k * sz := by rw [← Nat.succ_mul]; exact Nat.mul_le_mul_right _ hi
  have hkc : k * sz ≤ cap * sz := Nat.mul_le_mul_right _ c2
  have hfit : i * sz + 0 + v.cells.toList.length ≤ cur.size := by rw [Array.length_toList, hk, hcs]; omega
  obtain ⟨w', hr, s1, s2, s3, s4, s5, s6⟩ := run_storeCells (P := P) (b := gb) (i * sz) v.cells.toList 0 w cur hheap hfr hfit (fun u hu => List.all_eq_true.1 h1 u hu)
  have hx' : ev n f x = .pointer (some ⟨gb, i * sz, none⟩) := by rw [hx]; simp [pat]
  rw [Oper.semAt_eq _ _ _ (fun c h => by cases h), act_eval]
  have he : (execOp (ev n f) ⟨none, .store t x y, ty, pos, aft, none⟩).run P w = .ok .skip w' := by
    simp only [execOp, Instr.storeAt, Instr.sureAddr, hx', hy, Sem.run_bind, Sem.run_pure, Result.andThen_ok, storeVar, hs, hk, ne_eq, not_true, if_false, hr]
  rw [he, Oper.uponIn_skip, act_put]
  refine h w' ?_
  have hlen : (over cur (i * sz + 0) v.cells.toList).size = cur.size := by
    simp only [over, List.size_toArray, List.length_append, List.length_take, List.length_drop, Array.length_toList] at *
    omega
  refine hj w' _ ⟨by rw [s1]; exact Nat.le_refl _, fun b hb hn' => s2 b (fun e => hn' (e ▸ hg)), s4, s5, s6⟩ ⟨?_, c2, c3, .inr ⟨gb, _, fr, rfl, .inl hg, s3, by rw [hlen]; exact hfr, by rw [hlen]; exact hcs, ?_⟩⟩
  · subst hc
    simp only [List.length_append, List.length_take, List.length_drop, Array.length_toList, hk, c1]
    omega
  · subst hc
    subst htake
    have e1 : (over cur (i * sz + 0) v.cells.toList).toList = cur.toList.take (i * sz) ++ v.cells.toList ++ cur.toList.drop (i * sz + sz) := by
      simp [over, hk]
    rw [e1]
    exact take_over _ _ (by rw [Array.length_toList, hk]) hik (by rw [Array.length_toList, hcs]; exact hkc)
/-- Two ways meet. -/
def Joined {σ : Type} (n : Nat) (ds : List Deferred) (S0 : Nat → Prop) (w0 : World) (G : List Asn) (Lf : σ → List Asn) (ff : σ → Env → Env) (φ : σ → Prop) (a : Act) (w : World) : Prop := ∃ x g, φ x ∧ a = act n (ff x g) ds ∧ St S0 w0 G (Lf x) w
theorem T.join {σ : Type} {c1 c2 : Code} {L R : List Asn} {f : Env} {M0 : List Asn} (hR : L = M0 ++ R) (us : List Nat) (vs : σ → List (Nat × Value)) (M : σ → List Asn) (φ : σ → Prop)
    (h1 : T P r n ds S0 w0 G (Exit.then (Joined n ds S0 w0 G (fun x => M x ++ R) (fun x g => ovl (vs x) (kp us f g)) φ) Q) c1 L f)
    (h2 : ∀ x g, φ x → T P r n ds S0 w0 G Q c2 (M x ++ R) (ovl (vs x) (kp us f g))) : T P r n ds S0 w0 G Q (.seq c1 c2) L f := fun w hw => wpIn_seq (wpIn_mono (h1 w hw) fun e a' w' h => by
  cases e with
  | normal => obtain ⟨x, g, hφ, rfl, hst⟩ := h; exact h2 x g hφ w' hst
  | _ => exact h)
theorem TQ.joined {σ : Type} {M : σ → List Asn} {L R : List Asn} {f : Env} {us : List Nat} {vs : σ → List (Nat × Value)} {fo : Env} {φ : σ → Prop} (x' : σ) (hφ : φ x') (hv : agree f (vs x')) (hk : agreek fo f us) (hL : ∀ S w, Seps L S w → Seps (M x' ++ R) S w) :
    TQ n ds S0 w0 G (Exit.then (Joined n ds S0 w0 G (fun x => M x ++ R) (fun x g => ovl (vs x) (kp us fo g)) φ) Q) .normal L f := fun w hw => ⟨x', f, hφ, by dsimp only; rw [agreek_kp hk, agree_ovl hv], hw.conv hL⟩
theorem Has.cons {G L : List Asn} {A B : Asn} (h : Has G L A) : Has G (B :: L) A := Has.appR (M := [B]) h
/-- Ways meet that differ in which slice a slot holds. -/
theorem T.joinr {σ : Type} {c1 c2 : Code} {L : List Asn} {f : Env} (us : List Nat) (vs : σ → List (Nat × Value)) (φ : List Asn → List Asn → σ → Prop)
    (h1 : T P r n ds S0 w0 G (Exit.then (Joined n ds S0 w0 G (fun _ => [] ++ L) (fun x g => ovl (vs x) (kp us f g)) (φ G L)) Q) c1 L f)
    (h2 : ∀ x g, φ G L x → T P r n ds S0 w0 G Q c2 L (ovl (vs x) (kp us f g))) : T P r n ds S0 w0 G Q (.seq c1 c2) L f := T.join (M0 := []) (R := L) rfl us vs (fun _ => []) (φ G L) h1 h2
end
end Go.TL
end
section
/- What is signed is bound: another wish, or another proxy, under the same seal. Plain laws. No program is named here. -/
set_option linter.unusedVariables false
set_option linter.unusedSimpArgs false
namespace Go.TL
theorem coll_gen {k1 k2 c1 c2 : Bytes} (h1 : k1.length = 32) (h2 : k2.length = 32) (he : sealOf k1 c1 = sealOf k2 c2) (hne : ¬ c1 = c2) : collB (hashed k1 c1) (hashed k2 c2) = true := by
  by_cases e : (1 :: k1 ++ leafOf c1) = (1 :: k2 ++ leafOf c2)
  · have e2 := List.append_inj (List.cons.inj e).2 (by rw [h1, h2])
    have q : collQ (0 :: c1) (0 :: c2) = true := collQ_t (fun h => hne (List.cons.inj h).2) e2.2
    simp only [collB, hashed, List.any_cons, q, Bool.true_or]
  · have q : collQ (1 :: k1 ++ leafOf c1) (1 :: k2 ++ leafOf c2) = true := collQ_t e he
    simp only [collB, hashed, List.any_cons, List.any_nil, q, Bool.or_true, Bool.true_or]
theorem wishText_inj {w v : Wish} (h1 : wishOk w = true) (h2 : wishOk v = true) (h : wishText w = wishText v) (hs : w.sig = v.sig) : w = v := by
  have h3 := puts_inj (l := [1, w.signer, w.holder, w.rlo, w.rhi, w.carrier, w.serial, w.slo, w.shi]) (m := [1, v.signer, v.holder, v.rlo, v.rhi, v.carrier, v.serial, v.slo, v.shi]) rfl (fun n hn => by
    rw [List.mem_cons] at hn
    rcases hn with rfl | hn
    · exact ⟨by decide, by decide⟩
    · exact wishOk_I h1 n hn) (fun n hn => by
    rw [List.mem_cons] at hn
    rcases hn with rfl | hn
    · exact ⟨by decide, by decide⟩
    · exact wishOk_I h2 n hn) h
  cases w
  cases v
  simp_all
theorem Good.sign {w : Wish} {l : List Proxy} {nu t : Int} (g : Good (keysN 10) w l nu t) : 0 ≤ w.signer ∧ w.signer ≤ 9 ∧ w.sig = sealOf (keyB w.signer) (wishText w) := by
  have h1 := wishOk_signer g.wok
  have h2 := g.sl
  rw [sealBadW, Bool.or_eq_false_iff, keysN_len, decide_eq_false_iff_not] at h2
  have h3 : w.sig = sealOf ((keysN 10).getD w.signer.toNat []) (wishText w) := by simpa using h2.2
  rw [keysN_at h1.1 (by omega)] at h3
  exact ⟨h1.1, by omega, h3⟩
theorem Good.signP {w : Wish} {l : List Proxy} {nu t : Int} (g : Good (keysN 10) w l nu t) {k : Nat} (hk : k < l.length) : (0 ≤ (l[k]'hk).frm ∧ (l[k]'hk).frm ≤ 9) ∧ (l[k]'hk).sig = sealOf (keyB (l[k]'hk).frm) (proxyText (l[k]'hk)) ∧ proxyOk (l[k]'hk) = true := by
  have hf := g.forms k hk
  rw [formP, getD_get _ hk, Bool.not_eq_false'] at hf
  have h1 := proxyOk_frm hf
  have h2 := g.seals k hk
  rw [sealP, getD_get _ hk, sealBadP, Bool.or_eq_false_iff, keysN_len, decide_eq_false_iff_not] at h2
  have h3 : (l[k]'hk).sig = sealOf ((keysN 10).getD (l[k]'hk).frm.toNat []) (proxyText (l[k]'hk)) := by simpa using h2.2
  rw [keysN_at h1.1 (by omega)] at h3
  exact ⟨⟨h1.1, by omega⟩, h3, hf⟩
theorem Made.bind {w v : Wish} {l : List Proxy} (M : Made w l) {nu t : Int} (g : Good (keysN 10) v l nu t) (hs : v.sig = w.sig) (hne : ¬ v = w) {hA : w.signer.toNat < (keysN 10).length} {hB : v.signer.toNat < (keysN 10).length} :
    collB (hashed ((keysN 10)[w.signer.toNat]'hA) (wishText w)) (hashed ((keysN 10)[v.signer.toNat]'hB) (wishText v)) = true := by
  obtain ⟨s1, s2, s3⟩ := g.sign
  rw [keysN_el, keysN_el, Int.toNat_of_nonneg M.sg.1, Int.toNat_of_nonneg s1]
  exact coll_gen (keyB_len _) (keyB_len _) (by rw [← s3, ← M.sl, hs]) fun e => hne (wishText_inj M.wok g.wok e hs.symm).symm
def leastL (ks : List Bytes) : List Bytes := (ks.take 5).map fun s => (s.take (min s.length 33)).drop 0
theorem least_len (ks : List Bytes) : (leastL ks).length = min 5 ks.length := by simp [leastL]
theorem least_take {ks : List Bytes} {k : Nat} (h : k ≤ ks.length) (h5 : k ≤ 5) (hx : ¬ (k < ks.length ∧ k < 5)) : k = (leastL ks).length ∧ ks.take k = ks.take 5 := by
  rw [least_len]
  refine ⟨by omega, ?_⟩
  rcases Nat.lt_or_ge k 5 with h' | h'
  · have : k = ks.length := by omega
    rw [this, List.take_length, List.take_of_length_le (by omega)]
  · rw [show k = 5 by omega]
theorem least_le {ks : List Bytes} {k : Bytes} (h : k ∈ leastL ks) : k.length ≤ 33 := by
  simp only [leastL, List.mem_map] at h
  obtain ⟨s, _, rfl⟩ := h
  rw [List.drop_zero, List.length_take]
  omega
theorem keyed_le {ks : List Bytes} {z : Int} {k : Bytes} (h : k ∈ leastL ks ++ [keyB z]) : k.length ≤ 33 := by
  rw [List.mem_append, List.mem_singleton] at h
  rcases h with h | rfl
  · exact least_le h
  · rw [keyB_len]; omega
def pairL (x : Int × Int) : List Value := [.int .i64 x.1, .int .i64 x.2]
theorem set_flatP {xs : List Proxy} {q : Nat} {z : Proxy} (h : q < xs.length) : (xs.flatMap proxyL).take (q * 7) ++ proxyL z ++ (xs.flatMap proxyL).drop (q * 7 + 7) = (xs.set q z).flatMap proxyL := by
  have hl : ∀ l : List Proxy, (l.flatMap proxyL).length = l.length * 7 := fun l => fmLen (e := proxyL) (sz := 7) (fun _ => rfl) l
  rw [List.set_eq_take_append_cons_drop, if_pos h]
  have e : xs = xs.take q ++ [xs[q]] ++ xs.drop (q + 1) := by simp
  have h1 : (xs.flatMap proxyL).take (q * 7) = (xs.take q).flatMap proxyL := by
    conv => lhs; rw [← List.take_append_drop q xs]
    rw [List.flatMap_append, List.take_left' (by rw [hl, List.length_take, Nat.min_eq_left (by omega)])]
  have h2 : (xs.flatMap proxyL).drop (q * 7 + 7) = (xs.drop (q + 1)).flatMap proxyL := by
    conv => lhs; rw [← List.take_append_drop (q + 1) xs]
    rw [List.flatMap_append, List.drop_left' (by rw [hl, List.length_take, Nat.min_eq_left (by omega)]; omega)]
  rw [h1, h2, List.flatMap_append, List.flatMap_cons, List.append_assoc]
end Go.TL
end
section
set_option linter.unusedVariables false
set_option linter.unusedSimpArgs false
set_option maxRecDepth 100000
set_option maxHeartbeats 800000
namespace Go.Proofs
open Go.TL
attribute [local irreducible] Go.TL.T Go.TL.TO Go.TL.TQ
theorem Tryz.agg27 : TyAgg Tryz.prog 27 2 := ⟨fun w => by kernel_rfl, fun w => by kernel_rfl⟩
theorem Tryz.agg28 : TyAgg Tryz.prog 28 2 := ⟨fun w => by kernel_rfl, fun w => by kernel_rfl⟩
theorem Tryz.field27_1 : TyField Tryz.prog 27 1 1 := fun a w => by kernel_rfl
theorem Tryz.field28_1 : TyField Tryz.prog 28 1 1 := fun a w => by kernel_rfl
theorem Tryz.field30_0 : TyField Tryz.prog 30 0 0 := fun a w => by kernel_rfl
theorem Tryz.field30_1 : TyField Tryz.prog 30 1 1 := fun a w => by kernel_rfl
theorem Tryz.field30_6 : TyField Tryz.prog 30 6 8 := fun a w => by kernel_rfl
theorem Tryz.field40_0 : TyField Tryz.prog 40 0 0 := fun a w => by kernel_rfl
theorem Tryz.field40_1 : TyField Tryz.prog 40 1 1 := fun a w => by kernel_rfl
theorem Tryz.field40_2 : TyField Tryz.prog 40 2 2 := fun a w => by kernel_rfl
theorem Tryz.field40_3 : TyField Tryz.prog 40 3 4 := fun a w => by kernel_rfl
theorem Tryz.field40_4 : TyField Tryz.prog 40 4 6 := fun a w => by kernel_rfl
theorem Tryz.enters35 : Enters Tryz.prog 35 := fun args w => by kernel_rfl
theorem Tryz.enters36 : Enters Tryz.prog 36 := fun args w => by kernel_rfl
theorem Tryz.enters55 : Enters Tryz.prog 55 := fun args w => by kernel_rfl
theorem Tryz.enters56 : Enters Tryz.prog 56 := fun args w => by kernel_rfl
theorem Tryz.enters57 : Enters Tryz.prog 57 := fun args w => by kernel_rfl
theorem Tryz.enters58 : Enters Tryz.prog 58 := fun args w => by kernel_rfl
end Go.Proofs
end
section
set_option linter.unusedVariables false
set_option linter.unusedSimpArgs false
set_option maxRecDepth 100000
set_option maxHeartbeats 800000
namespace Go.Proofs
open Go.TL
attribute [local irreducible] Go.TL.T Go.TL.TO Go.TL.TQ
theorem Tryz.isome3 : (Tryz.prog.underlying 3).isSome = true := by kernel_rfl
theorem Tryz.size5 : ∀ w, (sizeOf 5).run Tryz.prog w = .ok 1 w := fun w => by kernel_rfl
theorem Tryz.trow5 : TyRow Tryz.prog 5 1 1 := tyRow_of (by kernel_rfl)
theorem Tryz.under5 : Tryz.prog.underlying 5 = some (.int .u8) := by kernel_rfl
theorem Tryz.under62 : Tryz.prog.underlying 62 = some (.slice 5) := by kernel_rfl
theorem Tryz.zero5 : TyZero Tryz.prog 5 (.int .u8 0) := fun w => by kernel_rfl
end Go.Proofs
end
section
set_option linter.unusedVariables false
set_option linter.unusedSimpArgs false
set_option maxRecDepth 100000
set_option maxHeartbeats 800000
namespace Go.Proofs
open Go.TL
attribute [local irreducible] Go.TL.T Go.TL.TO Go.TL.TQ
theorem Tryz.places30 : TyPlaces Tryz.prog 30 #[(0, 1), (1, 1), (2, 2), (4, 1), (5, 1), (6, 2), (8, 1)] := ⟨by kernel_rfl, fun w => by kernel_rfl⟩
theorem Tryz.places40 : TyPlaces Tryz.prog 40 #[(0, 1), (1, 1), (2, 2), (4, 2), (6, 1)] := ⟨by kernel_rfl, fun w => by kernel_rfl⟩
theorem Tryz.enters73 : Enters Tryz.prog 73 := fun args w => by kernel_rfl
end Go.Proofs
end
section
set_option linter.unusedVariables false
set_option linter.unusedSimpArgs false
set_option maxRecDepth 100000
set_option maxHeartbeats 800000
namespace Go.Proofs
open Go.TL
attribute [local irreducible] Go.TL.T Go.TL.TO Go.TL.TQ
theorem Tryz.enters40 : Enters Tryz.prog 40 := fun args w => by kernel_rfl
end Go.Proofs
end
section
set_option linter.unusedVariables false
set_option linter.unusedSimpArgs false
set_option maxRecDepth 100000
set_option maxHeartbeats 800000
namespace Go.Proofs
open Go.TL
attribute [local irreducible] Go.TL.T Go.TL.TO Go.TL.TQ
theorem Tryz.isome137 : (Tryz.prog.underlying 137).isSome = true := by kernel_rfl
theorem Tryz.one137 : TyOne Tryz.prog 137 := ⟨fun w => by kernel_rfl, fun w => by kernel_rfl⟩
theorem Tryz.size137 : ∀ w, (sizeOf 137).run Tryz.prog w = .ok 1 w := fun w => by kernel_rfl
theorem Tryz.under138 : Tryz.prog.underlying 138 = some (.slice 137) := by kernel_rfl
theorem Tryz.zero137 : TyZero Tryz.prog 137 (.int .u32 0) := fun w => by kernel_rfl
theorem Tryz.enters78 : Enters Tryz.prog 78 := fun args w => by kernel_rfl
theorem Tryz.enters79 : Enters Tryz.prog 79 := fun args w => by kernel_rfl
theorem Tryz.enters91 : Enters Tryz.prog 91 := fun args w => by kernel_rfl
theorem Tryz.enters97 : Enters Tryz.prog 97 := fun args w => by kernel_rfl
theorem Tryz.enters98 : Enters Tryz.prog 98 := fun args w => by kernel_rfl
end Go.Proofs
end
section
set_option linter.unusedVariables false
set_option linter.unusedSimpArgs false
set_option maxRecDepth 100000
set_option maxHeartbeats 800000
namespace Go.Proofs
open Go.TL
attribute [local irreducible] Go.TL.T Go.TL.TO Go.TL.TQ
theorem Tryz.isome5 : (Tryz.prog.underlying 5).isSome = true := by kernel_rfl
theorem Tryz.one5 : TyOne Tryz.prog 5 := ⟨fun w => by kernel_rfl, fun w => by kernel_rfl⟩
theorem Tryz.trow137 : TyRow Tryz.prog 137 1 4 := tyRow_of (by kernel_rfl)
theorem Tryz.under137 : Tryz.prog.underlying 137 = some (.int .u32) := by kernel_rfl
theorem Tryz.enters103 : Enters Tryz.prog 103 := fun args w => by kernel_rfl
theorem Tryz.enters104 : Enters Tryz.prog 104 := fun args w => by kernel_rfl
end Go.Proofs
end
section
set_option linter.unusedVariables false
set_option linter.unusedSimpArgs false
set_option maxRecDepth 100000
set_option maxHeartbeats 800000
namespace Go.Proofs
open Go.TL
attribute [local irreducible] Go.TL.T Go.TL.TO Go.TL.TQ
end Go.Proofs
end
section
set_option linter.unusedVariables false
set_option linter.unusedSimpArgs false
set_option maxRecDepth 100000
set_option maxHeartbeats 800000
namespace Go.Proofs
open Go.TL
attribute [local irreducible] Go.TL.T Go.TL.TO Go.TL.TQ
theorem Tryz.isome146 : (Tryz.prog.underlying 146).isSome = true := by kernel_rfl
theorem Tryz.under146 : Tryz.prog.underlying 146 = some (.int .u64) := by kernel_rfl
theorem Tryz.under3 : Tryz.prog.underlying 3 = some (.int .i64) := by kernel_rfl
theorem Tryz.enters94 : Enters Tryz.prog 94 := fun args w => by kernel_rfl
theorem Tryz.enters102 : Enters Tryz.prog 102 := fun args w => by kernel_rfl
end Go.Proofs
end
section
set_option linter.unusedVariables false
set_option linter.unusedSimpArgs false
set_option maxRecDepth 100000
set_option maxHeartbeats 800000
namespace Go.Proofs
open Go.TL
attribute [local irreducible] Go.TL.T Go.TL.TO Go.TL.TQ
theorem Tryz.field30_3 : TyField Tryz.prog 30 3 4 := fun a w => by kernel_rfl
theorem Tryz.field30_4 : TyField Tryz.prog 30 4 5 := fun a w => by kernel_rfl
theorem Tryz.enters47 : Enters Tryz.prog 47 := fun args w => by kernel_rfl
theorem Tryz.enters81 : Enters Tryz.prog 81 := fun args w => by kernel_rfl
theorem Tryz.enters82 : Enters Tryz.prog 82 := fun args w => by kernel_rfl
theorem Tryz.enters89 : Enters Tryz.prog 89 := fun args w => by kernel_rfl
theorem Tryz.enters90 : Enters Tryz.prog 90 := fun args w => by kernel_rfl
end Go.Proofs
end
section
set_option linter.unusedVariables false
set_option linter.unusedSimpArgs false
set_option maxRecDepth 100000
set_option maxHeartbeats 800000
namespace Go.Proofs
open Go.TL
attribute [local irreducible] Go.TL.T Go.TL.TO Go.TL.TQ
theorem c_wish_isRange (lo hi : Int) : Cv Tryz.prog 81 #[.agg #[.int .i64 lo, .int .i64 hi]] [] (.bool (rangeOk lo hi)) := by
 refine Ctr.intro Tryz.func81 rfl Tryz.ntmps81 (Nat.le_of_ble_eq_true rfl) fun S0 w0 => ?_
 refine T.seq (T.region ?_)
 refine TO.box (v := .agg #[.int _ _, .int _ _]) rfl (fun b1 => ?_)
 refine rdx (rd_assign (v := .bool _) rfl) ?_
 refine TO.nil (TQ.then_normal (T.seq (T.region ?_)))
 refine rdx (rd_fieldAddr Tryz.field27_0 rfl) ?_
 refine rdx (rd_load (v := .int _ _) Tryz.one3 rfl (Has.own 0 rfl) rfl) ?_
 refine rdx (rd_leq rfl rfl) ?_
 refine rdx (rd_move (v := .bool _) rfl) ?_
 refine TO.decide_ft (s := 6) rfl (fun h2 => ?_) (fun h2 => ?_)
 ·refine TO.guard_false (s := 6) (b' := false) rfl rfl nofun ?_
  refine TO.guard_false (s := 6) (b' := false) rfl rfl nofun ?_
  refine TO.guard_false (s := 6) (b' := false) rfl rfl nofun ?_
  refine TO.guard_false (s := 6) (b' := false) rfl rfl nofun ?_
  refine TO.guard_false (s := 6) (b' := false) rfl rfl nofun ?_
  refine rdx (rd_pick_false (v := .bool _) rfl rfl) ?_
  refine rdx (rd_move (v := .bool _) rfl) ?_
  refine TO.guard_false (s := 13) (b' := false) rfl rfl nofun ?_
  refine TO.guard_false (s := 13) (b' := false) rfl rfl nofun ?_
  refine TO.guard_false (s := 13) (b' := false) rfl rfl nofun ?_
  refine rdx (rd_pick_false (v := .bool _) rfl rfl) ?_
  refine rdx (rd_assign (v := .bool _) rfl) ?_
  refine TO.nil (TQ.then_normal (T.ret ?_))
  refine TQ.value ?_ (res1 Tryz.results81 (Res.tmp (v := .bool _) rfl)) _ (.inl rfl)
  show Value.bool _ = Value.bool _; simp [rangeOk, h2]
 refine TO.guard_true (s := 6) rfl rfl ?_
 refine rdx (rd_fieldAddr Tryz.field27_0 rfl) ?_
 refine TO.guard_true (s := 6) rfl rfl ?_
 refine rdx (rd_load (v := .int _ _) Tryz.one3 rfl (Has.own 0 rfl) rfl) ?_
 refine TO.guard_true (s := 6) rfl rfl ?_
 refine rdx (rd_fieldAddr Tryz.field27_1 rfl) ?_
 refine TO.guard_true (s := 6) rfl rfl ?_
 refine rdx (rd_load (v := .int _ _) Tryz.one3 rfl (Has.own 0 rfl) rfl) ?_
 refine TO.guard_true (s := 6) rfl rfl ?_
 refine rdx (rd_lss rfl rfl) ?_
 refine rdx (rd_pick_true (v := .bool _) rfl rfl) ?_
 refine rdx (rd_move (v := .bool _) rfl) ?_
 refine TO.decide_ft (s := 13) rfl (fun h3 => ?_) (fun h3 => ?_)
 ·refine TO.guard_false (s := 13) (b' := false) rfl rfl nofun ?_
  refine TO.guard_false (s := 13) (b' := false) rfl rfl nofun ?_
  refine TO.guard_false (s := 13) (b' := false) rfl rfl nofun ?_
  refine rdx (rd_pick_false (v := .bool _) rfl rfl) ?_
  refine rdx (rd_assign (v := .bool _) rfl) ?_
  refine TO.nil (TQ.then_normal (T.ret ?_))
  refine TQ.value ?_ (res1 Tryz.results81 (Res.tmp (v := .bool _) rfl)) _ (.inl rfl)
  show Value.bool _ = Value.bool _; simp [rangeOk, h2, h3]
 refine TO.guard_true (s := 13) rfl rfl ?_
 refine rdx (rd_fieldAddr Tryz.field27_1 rfl) ?_
 refine TO.guard_true (s := 13) rfl rfl ?_
 refine rdx (rd_load (v := .int _ _) Tryz.one3 rfl (Has.own 0 rfl) rfl) ?_
 refine TO.guard_true (s := 13) rfl rfl ?_
 refine rdx (rd_leq rfl rfl) ?_
 refine rdx (rd_pick_true (v := .bool _) rfl rfl) ?_
 refine rdx (rd_assign (v := .bool _) rfl) ?_
 refine TO.nil (TQ.then_normal (T.ret ?_))
 refine TQ.value ?_ (res1 Tryz.results81 (Res.tmp (v := .bool _) rfl)) _ (.inl rfl)
 show Value.bool _ = Value.bool _; simp [rangeOk, h2, h3]
theorem c_wish_isSpell (lo hi : Int) : Cv Tryz.prog 82 #[.agg #[.int .i64 lo, .int .i64 hi]] [] (.bool (spellOk lo hi)) := by
 refine Ctr.intro Tryz.func82 rfl Tryz.ntmps82 (Nat.le_of_ble_eq_true rfl) fun S0 w0 => ?_
 refine T.seq (T.region ?_)
 refine TO.box (v := .agg #[.int _ _, .int _ _]) rfl (fun b1 => ?_)
 refine rdx (rd_assign (v := .bool _) rfl) ?_
 refine TO.nil (TQ.then_normal (T.seq (T.region ?_)))
 refine rdx (rd_fieldAddr Tryz.field28_0 rfl) ?_
 refine rdx (rd_load (v := .int _ _) Tryz.one3 rfl (Has.own 0 rfl) rfl) ?_
 refine rdx (rd_leq rfl rfl) ?_
 refine rdx (rd_move (v := .bool _) rfl) ?_
 refine TO.decide_ft (s := 6) rfl (fun h2 => ?_) (fun h2 => ?_)
 ·refine TO.guard_false (s := 6) (b' := false) rfl rfl nofun ?_
  refine TO.guard_false (s := 6) (b' := false) rfl rfl nofun ?_
  refine TO.guard_false (s := 6) (b' := false) rfl rfl nofun ?_
  refine TO.guard_false (s := 6) (b' := false) rfl rfl nofun ?_
  refine TO.guard_false (s := 6) (b' := false) rfl rfl nofun ?_
  refine rdx (rd_pick_false (v := .bool _) rfl rfl) ?_
  refine rdx (rd_move (v := .bool _) rfl) ?_
  refine TO.guard_false (s := 13) (b' := false) rfl rfl nofun ?_
  refine TO.guard_false (s := 13) (b' := false) rfl rfl nofun ?_
  refine TO.guard_false (s := 13) (b' := false) rfl rfl nofun ?_
  refine rdx (rd_pick_false (v := .bool _) rfl rfl) ?_
  refine rdx (rd_assign (v := .bool _) rfl) ?_
  refine TO.nil (TQ.then_normal (T.ret ?_))
  refine TQ.value ?_ (res1 Tryz.results82 (Res.tmp (v := .bool _) rfl)) _ (.inl rfl)
  show Value.bool _ = Value.bool _; simp [spellOk, h2]
 refine TO.guard_true (s := 6) rfl rfl ?_
 refine rdx (rd_fieldAddr Tryz.field28_0 rfl) ?_
 refine TO.guard_true (s := 6) rfl rfl ?_
 refine rdx (rd_load (v := .int _ _) Tryz.one3 rfl (Has.own 0 rfl) rfl) ?_
 refine TO.guard_true (s := 6) rfl rfl ?_
 refine rdx (rd_fieldAddr Tryz.field28_1 rfl) ?_
 refine TO.guard_true (s := 6) rfl rfl ?_
 refine rdx (rd_load (v := .int _ _) Tryz.one3 rfl (Has.own 0 rfl) rfl) ?_
 refine TO.guard_true (s := 6) rfl rfl ?_
 refine rdx (rd_lss rfl rfl) ?_
 refine rdx (rd_pick_true (v := .bool _) rfl rfl) ?_
 refine rdx (rd_move (v := .bool _) rfl) ?_
 refine TO.decide_ft (s := 13) rfl (fun h3 => ?_) (fun h3 => ?_)
 ·refine TO.guard_false (s := 13) (b' := false) rfl rfl nofun ?_
  refine TO.guard_false (s := 13) (b' := false) rfl rfl nofun ?_
  refine TO.guard_false (s := 13) (b' := false) rfl rfl nofun ?_
  refine rdx (rd_pick_false (v := .bool _) rfl rfl) ?_
  refine rdx (rd_assign (v := .bool _) rfl) ?_
  refine TO.nil (TQ.then_normal (T.ret ?_))
  refine TQ.value ?_ (res1 Tryz.results82 (Res.tmp (v := .bool _) rfl)) _ (.inl rfl)
  show Value.bool _ = Value.bool _; simp [spellOk, h2, h3]
 refine TO.guard_true (s := 13) rfl rfl ?_
 refine rdx (rd_fieldAddr Tryz.field28_1 rfl) ?_
 refine TO.guard_true (s := 13) rfl rfl ?_
 refine rdx (rd_load (v := .int _ _) Tryz.one3 rfl (Has.own 0 rfl) rfl) ?_
 refine TO.guard_true (s := 13) rfl rfl ?_
 refine rdx (rd_leq rfl rfl) ?_
 refine rdx (rd_pick_true (v := .bool _) rfl rfl) ?_
 refine rdx (rd_assign (v := .bool _) rfl) ?_
 refine TO.nil (TQ.then_normal (T.ret ?_))
 refine TQ.value ?_ (res1 Tryz.results82 (Res.tmp (v := .bool _) rfl)) _ (.inl rfl)
 show Value.bool _ = Value.bool _; simp [spellOk, h2, h3]
theorem c_wish_isWithin (n low high : Int) : Cv Tryz.prog 47 #[.int .i64 n, .int .i64 low, .int .i64 high] [] (.bool (within n low high)) := by
 refine Ctr.intro Tryz.func47 rfl Tryz.ntmps47 (Nat.le_of_ble_eq_true rfl) fun S0 w0 => ?_
 refine T.seq (T.region ?_)
 refine rdx (rd_assign (v := .bool _) rfl) ?_
 refine TO.nil (TQ.then_normal (T.seq (T.region ?_)))
 refine rdx (rd_move (v := .int _ _) rfl) ?_
 refine rdx (rd_move (v := .int _ _) rfl) ?_
 refine rdx (rd_leq rfl rfl) ?_
 refine rdx (rd_move (v := .bool _) rfl) ?_
 refine TO.decide_ft (s := 10) rfl (fun h1 => ?_) (fun h1 => ?_)
 ·refine TO.guard_false (s := 10) (b' := false) rfl rfl nofun ?_
  refine TO.guard_false (s := 10) (b' := false) rfl rfl nofun ?_
  refine TO.guard_false (s := 10) (b' := false) rfl rfl nofun ?_
  refine rdx (rd_pick_false (v := .bool _) rfl rfl) ?_
  refine rdx (rd_assign (v := .bool _) rfl) ?_
  refine TO.nil (TQ.then_normal (T.ret ?_))
  refine TQ.value ?_ (res1 Tryz.results47 (Res.tmp (v := .bool _) rfl)) _ (.inl rfl)
  show Value.bool _ = Value.bool _; simp [within, h1]
 refine TO.guard_true (s := 10) rfl rfl ?_
 refine rdx (rd_move (v := .int _ _) rfl) ?_
 refine TO.guard_true (s := 10) rfl rfl ?_
 refine rdx (rd_move (v := .int _ _) rfl) ?_
 refine TO.guard_true (s := 10) rfl rfl ?_
 refine rdx (rd_leq rfl rfl) ?_
 refine rdx (rd_pick_true (v := .bool _) rfl rfl) ?_
 refine rdx (rd_assign (v := .bool _) rfl) ?_
 refine TO.nil (TQ.then_normal (T.ret ?_))
 refine TQ.value ?_ (res1 Tryz.results47 (Res.tmp (v := .bool _) rfl)) _ (.inl rfl)
 show Value.bool _ = Value.bool _; simp [within, h1]
theorem c_wish_isWish (w : Wish) : Cv Tryz.prog 45 #[wishV w] [] (.bool (wishOk w)) := by
 refine Ctr.intro Tryz.func45 rfl Tryz.ntmps45 (Nat.le_of_ble_eq_true rfl) fun S0 w0 => ?_
 refine T.seq (T.region ?_)
 refine TO.box (v := .agg #[.int _ _, .int _ _, .int _ _, .int _ _, .int _ _, .int _ _, .int _ _, .int _ _, .string _]) rfl (fun b1 => ?_)
 refine rdx (rd_assign (v := .bool _) rfl) ?_
 refine TO.nil (TQ.then_normal (T.seq (T.region ?_)))
 refine rdx (rd_fieldAddr Tryz.field30_0 rfl) ?_
 refine rdx (rd_load (v := .int _ _) Tryz.one3 rfl (Has.own 0 rfl) rfl) ?_
 refine TO.fn Tryz.enters47 (c_wish_isWithin _ _ _) rfl Reads0 ?_
 refine rdx (rd_move (v := .bool _) rfl) ?_
 refine TO.decide_ft (s := 7) rfl (fun h2 => ?_) (fun h2 => ?_)
 ·refine TO.guard_false (s := 7) (b' := false) rfl rfl nofun ?_
  refine TO.guard_false (s := 7) (b' := false) rfl rfl nofun ?_
  refine TO.guard_false (s := 7) (b' := false) rfl rfl nofun ?_
  refine rdx (rd_pick_false (v := .bool _) rfl rfl) ?_
  refine rdx (rd_assign (v := .bool _) rfl) ?_
  refine TO.nil (TQ.then_normal (T.seq (T.region ?_)))
  refine rdx (rd_move (v := .bool _) rfl) ?_
  refine rdx (rd_move (v := .bool _) rfl) ?_
  refine TO.guard_false (s := 13) (b' := false) rfl rfl nofun ?_
  refine TO.guard_false (s := 13) (b' := false) rfl rfl nofun ?_
  refine TO.guard_false (s := 13) (b' := false) rfl rfl nofun ?_
  refine rdx (rd_pick_false (v := .bool _) rfl rfl) ?_
  refine rdx (rd_move (v := .bool _) rfl) ?_
  refine TO.guard_false (s := 18) (b' := false) rfl rfl nofun ?_
  refine TO.guard_false (s := 18) (b' := false) rfl rfl nofun ?_
  refine TO.guard_false (s := 18) (b' := false) rfl rfl nofun ?_
  refine rdx (rd_pick_false (v := .bool _) rfl rfl) ?_
  refine rdx (rd_move (v := .bool _) rfl) ?_
  refine TO.guard_false (s := 23) (b' := false) rfl rfl nofun ?_
  refine TO.guard_false (s := 23) (b' := false) rfl rfl nofun ?_
  refine TO.guard_false (s := 23) (b' := false) rfl rfl nofun ?_
  refine rdx (rd_pick_false (v := .bool _) rfl rfl) ?_
  refine rdx (rd_move (v := .bool _) rfl) ?_
  refine TO.guard_false (s := 28) (b' := false) rfl rfl nofun ?_
  refine TO.guard_false (s := 28) (b' := false) rfl rfl nofun ?_
  refine TO.guard_false (s := 28) (b' := false) rfl rfl nofun ?_
  refine rdx (rd_pick_false (v := .bool _) rfl rfl) ?_
  refine rdx (rd_assign (v := .bool _) rfl) ?_
  refine TO.nil (TQ.then_normal (T.ret ?_))
  refine TQ.value ?_ (res1 Tryz.results45 (Res.tmp (v := .bool _) rfl)) _ (.inl rfl)
  show Value.bool _ = Value.bool _; simp [wishOk, h2]
 refine TO.guard_true (s := 7) rfl rfl ?_
 refine rdx (rd_fieldAddr Tryz.field30_1 rfl) ?_
 refine TO.guard_true (s := 7) rfl rfl ?_
 refine rdx (rd_load (v := .int _ _) Tryz.one3 rfl (Has.own 0 rfl) rfl) ?_
 refine TO.guard_true (s := 7) rfl rfl ?_
 refine TO.fn Tryz.enters47 (c_wish_isWithin _ _ _) rfl Reads0 ?_
 refine rdx (rd_pick_true (v := .bool _) rfl rfl) ?_
 refine rdx (rd_assign (v := .bool _) rfl) ?_
 refine TO.nil (TQ.then_normal (T.seq (T.region ?_)))
 refine rdx (rd_move (v := .bool _) rfl) ?_
 refine rdx (rd_move (v := .bool _) rfl) ?_
 refine TO.decide_ft (s := 13) rfl (fun h3 => ?_) (fun h3 => ?_)
 ·refine TO.guard_false (s := 13) (b' := false) rfl rfl nofun ?_
  refine TO.guard_false (s := 13) (b' := false) rfl rfl nofun ?_
  refine TO.guard_false (s := 13) (b' := false) rfl rfl nofun ?_
  refine rdx (rd_pick_false (v := .bool _) rfl rfl) ?_
  refine rdx (rd_move (v := .bool _) rfl) ?_
  refine TO.guard_false (s := 18) (b' := false) rfl rfl nofun ?_
  refine TO.guard_false (s := 18) (b' := false) rfl rfl nofun ?_
  refine TO.guard_false (s := 18) (b' := false) rfl rfl nofun ?_
  refine rdx (rd_pick_false (v := .bool _) rfl rfl) ?_
  refine rdx (rd_move (v := .bool _) rfl) ?_
  refine TO.guard_false (s := 23) (b' := false) rfl rfl nofun ?_
  refine TO.guard_false (s := 23) (b' := false) rfl rfl nofun ?_
  refine TO.guard_false (s := 23) (b' := false) rfl rfl nofun ?_
  refine rdx (rd_pick_false (v := .bool _) rfl rfl) ?_
  refine rdx (rd_move (v := .bool _) rfl) ?_
  refine TO.guard_false (s := 28) (b' := false) rfl rfl nofun ?_
  refine TO.guard_false (s := 28) (b' := false) rfl rfl nofun ?_
  refine TO.guard_false (s := 28) (b' := false) rfl rfl nofun ?_
  refine rdx (rd_pick_false (v := .bool _) rfl rfl) ?_
  refine rdx (rd_assign (v := .bool _) rfl) ?_
  refine TO.nil (TQ.then_normal (T.ret ?_))
  refine TQ.value ?_ (res1 Tryz.results45 (Res.tmp (v := .bool _) rfl)) _ (.inl rfl)
  show Value.bool _ = Value.bool _; simp [wishOk, h2, h3]
 refine TO.guard_true (s := 13) rfl rfl ?_
 refine rdx (rd_fieldAddr Tryz.field30_2 rfl) ?_
 refine TO.guard_true (s := 13) rfl rfl ?_
 refine rdx (rd_load_agg (cs := #[.int _ _, .int _ _]) Tryz.agg27 rfl (Has.own 0 rfl) rfl rfl) ?_
 refine TO.guard_true (s := 13) rfl rfl ?_
 refine TO.fn Tryz.enters81 (c_wish_isRange _ _) rfl Reads0 ?_
 refine rdx (rd_pick_true (v := .bool _) rfl rfl) ?_
 refine rdx (rd_move (v := .bool _) rfl) ?_
 refine TO.decide_ft (s := 18) rfl (fun h4 => ?_) (fun h4 => ?_)
 ·refine TO.guard_false (s := 18) (b' := false) rfl rfl nofun ?_
  refine TO.guard_false (s := 18) (b' := false) rfl rfl nofun ?_
  refine TO.guard_false (s := 18) (b' := false) rfl rfl nofun ?_
  refine rdx (rd_pick_false (v := .bool _) rfl rfl) ?_
  refine rdx (rd_move (v := .bool _) rfl) ?_
  refine TO.guard_false (s := 23) (b' := false) rfl rfl nofun ?_
  refine TO.guard_false (s := 23) (b' := false) rfl rfl nofun ?_
  refine TO.guard_false (s := 23) (b' := false) rfl rfl nofun ?_
  refine rdx (rd_pick_false (v := .bool _) rfl rfl) ?_
  refine rdx (rd_move (v := .bool _) rfl) ?_
  refine TO.guard_false (s := 28) (b' := false) rfl rfl nofun ?_
  refine TO.guard_false (s := 28) (b' := false) rfl rfl nofun ?_
  refine TO.guard_false (s := 28) (b' := false) rfl rfl nofun ?_
  refine rdx (rd_pick_false (v := .bool _) rfl rfl) ?_
  refine rdx (rd_assign (v := .bool _) rfl) ?_
  refine TO.nil (TQ.then_normal (T.ret ?_))
  refine TQ.value ?_ (res1 Tryz.results45 (Res.tmp (v := .bool _) rfl)) _ (.inl rfl)
  show Value.bool _ = Value.bool _; simp [wishOk, h2, h3, h4]
 refine TO.guard_true (s := 18) rfl rfl ?_
 refine rdx (rd_fieldAddr Tryz.field30_3 rfl) ?_
 refine TO.guard_true (s := 18) rfl rfl ?_
 refine rdx (rd_load (v := .int _ _) Tryz.one3 rfl (Has.own 0 rfl) rfl) ?_
 refine TO.guard_true (s := 18) rfl rfl ?_
 refine TO.fn Tryz.enters47 (c_wish_isWithin _ _ _) rfl Reads0 ?_
 refine rdx (rd_pick_true (v := .bool _) rfl rfl) ?_
 refine rdx (rd_move (v := .bool _) rfl) ?_
 refine TO.decide_ft (s := 23) rfl (fun h5 => ?_) (fun h5 => ?_)
 ·refine TO.guard_false (s := 23) (b' := false) rfl rfl nofun ?_
  refine TO.guard_false (s := 23) (b' := false) rfl rfl nofun ?_
  refine TO.guard_false (s := 23) (b' := false) rfl rfl nofun ?_
  refine rdx (rd_pick_false (v := .bool _) rfl rfl) ?_
  refine rdx (rd_move (v := .bool _) rfl) ?_
  refine TO.guard_false (s := 28) (b' := false) rfl rfl nofun ?_
  refine TO.guard_false (s := 28) (b' := false) rfl rfl nofun ?_
  refine TO.guard_false (s := 28) (b' := false) rfl rfl nofun ?_
  refine rdx (rd_pick_false (v := .bool _) rfl rfl) ?_
  refine rdx (rd_assign (v := .bool _) rfl) ?_
  refine TO.nil (TQ.then_normal (T.ret ?_))
  refine TQ.value ?_ (res1 Tryz.results45 (Res.tmp (v := .bool _) rfl)) _ (.inl rfl)
  show Value.bool _ = Value.bool _; simp [wishOk, h2, h3, h4, h5]
 refine TO.guard_true (s := 23) rfl rfl ?_
 refine rdx (rd_fieldAddr Tryz.field30_4 rfl) ?_
 refine TO.guard_true (s := 23) rfl rfl ?_
 refine rdx (rd_load (v := .int _ _) Tryz.one3 rfl (Has.own 0 rfl) rfl) ?_
 refine TO.guard_true (s := 23) rfl rfl ?_
 refine TO.fn Tryz.enters47 (c_wish_isWithin _ _ _) rfl Reads0 ?_
 refine rdx (rd_pick_true (v := .bool _) rfl rfl) ?_
 refine rdx (rd_move (v := .bool _) rfl) ?_
 refine TO.decide_ft (s := 28) rfl (fun h6 => ?_) (fun h6 => ?_)
 ·refine TO.guard_false (s := 28) (b' := false) rfl rfl nofun ?_
  refine TO.guard_false (s := 28) (b' := false) rfl rfl nofun ?_
  refine TO.guard_false (s := 28) (b' := false) rfl rfl nofun ?_
  refine rdx (rd_pick_false (v := .bool _) rfl rfl) ?_
  refine rdx (rd_assign (v := .bool _) rfl) ?_
  refine TO.nil (TQ.then_normal (T.ret ?_))
  refine TQ.value ?_ (res1 Tryz.results45 (Res.tmp (v := .bool _) rfl)) _ (.inl rfl)
  show Value.bool _ = Value.bool _; simp [wishOk, h2, h3, h4, h5, h6]
 refine TO.guard_true (s := 28) rfl rfl ?_
 refine rdx (rd_fieldAddr Tryz.field30_5 rfl) ?_
 refine TO.guard_true (s := 28) rfl rfl ?_
 refine rdx (rd_load_agg (cs := #[.int _ _, .int _ _]) Tryz.agg28 rfl (Has.own 0 rfl) rfl rfl) ?_
 refine TO.guard_true (s := 28) rfl rfl ?_
 refine TO.fn Tryz.enters82 (c_wish_isSpell _ _) rfl Reads0 ?_
 refine rdx (rd_pick_true (v := .bool _) rfl rfl) ?_
 refine rdx (rd_assign (v := .bool _) rfl) ?_
 refine TO.nil (TQ.then_normal (T.ret ?_))
 refine TQ.value ?_ (res1 Tryz.results45 (Res.tmp (v := .bool _) rfl)) _ (.inl rfl)
 show Value.bool _ = Value.bool _; simp [wishOk, h2, h3, h4, h5, h6]
theorem c_wish_isProxy (p : Proxy) : Cv Tryz.prog 60 #[proxyV p] [] (.bool (proxyOk p)) := by
 refine Ctr.intro Tryz.func60 rfl Tryz.ntmps60 (Nat.le_of_ble_eq_true rfl) fun S0 w0 => ?_
 refine T.seq (T.region ?_)
 refine TO.box (v := .agg #[.int _ _, .int _ _, .int _ _, .int _ _, .int _ _, .int _ _, .string _]) rfl (fun b1 => ?_)
 refine rdx (rd_assign (v := .bool _) rfl) ?_
 refine TO.nil (TQ.then_normal (T.seq (T.region ?_)))
 refine rdx (rd_fieldAddr Tryz.field40_0 rfl) ?_
 refine rdx (rd_load (v := .int _ _) Tryz.one3 rfl (Has.own 0 rfl) rfl) ?_
 refine TO.fn Tryz.enters47 (c_wish_isWithin _ _ _) rfl Reads0 ?_
 refine rdx (rd_move (v := .bool _) rfl) ?_
 refine TO.decide_ft (s := 7) rfl (fun h2 => ?_) (fun h2 => ?_)
 ·refine TO.guard_false (s := 7) (b' := false) rfl rfl nofun ?_
  refine TO.guard_false (s := 7) (b' := false) rfl rfl nofun ?_
  refine TO.guard_false (s := 7) (b' := false) rfl rfl nofun ?_
  refine rdx (rd_pick_false (v := .bool _) rfl rfl) ?_
  refine rdx (rd_move (v := .bool _) rfl) ?_
  refine TO.guard_false (s := 12) (b' := false) rfl rfl nofun ?_
  refine TO.guard_false (s := 12) (b' := false) rfl rfl nofun ?_
  refine TO.guard_false (s := 12) (b' := false) rfl rfl nofun ?_
  refine TO.guard_false (s := 12) (b' := false) rfl rfl nofun ?_
  refine TO.guard_false (s := 12) (b' := false) rfl rfl nofun ?_
  refine rdx (rd_pick_false (v := .bool _) rfl rfl) ?_
  refine rdx (rd_assign (v := .bool _) rfl) ?_
  refine TO.nil (TQ.then_normal (T.seq (T.region ?_)))
  refine rdx (rd_move (v := .bool _) rfl) ?_
  refine rdx (rd_move (v := .bool _) rfl) ?_
  refine TO.guard_false (s := 20) (b' := false) rfl rfl nofun ?_
  refine TO.guard_false (s := 20) (b' := false) rfl rfl nofun ?_
  refine TO.guard_false (s := 20) (b' := false) rfl rfl nofun ?_
  refine rdx (rd_pick_false (v := .bool _) rfl rfl) ?_
  refine rdx (rd_move (v := .bool _) rfl) ?_
  refine TO.guard_false (s := 25) (b' := false) rfl rfl nofun ?_
  refine TO.guard_false (s := 25) (b' := false) rfl rfl nofun ?_
  refine TO.guard_false (s := 25) (b' := false) rfl rfl nofun ?_
  refine rdx (rd_pick_false (v := .bool _) rfl rfl) ?_
  refine rdx (rd_assign (v := .bool _) rfl) ?_
  refine TO.nil (TQ.then_normal (T.ret ?_))
  refine TQ.value ?_ (res1 Tryz.results60 (Res.tmp (v := .bool _) rfl)) _ (.inl rfl)
  show Value.bool _ = Value.bool _; simp [proxyOk, h2]
 refine TO.guard_true (s := 7) rfl rfl ?_
 refine rdx (rd_fieldAddr Tryz.field40_1 rfl) ?_
 refine TO.guard_true (s := 7) rfl rfl ?_
 refine rdx (rd_load (v := .int _ _) Tryz.one3 rfl (Has.own 0 rfl) rfl) ?_
 refine TO.guard_true (s := 7) rfl rfl ?_
 refine TO.fn Tryz.enters47 (c_wish_isWithin _ _ _) rfl Reads0 ?_
 refine rdx (rd_pick_true (v := .bool _) rfl rfl) ?_
 refine rdx (rd_move (v := .bool _) rfl) ?_
 refine TO.decide_ft (s := 12) rfl (fun h3 => ?_) (fun h3 => ?_)
 ·refine TO.guard_false (s := 12) (b' := false) rfl rfl nofun ?_
  refine TO.guard_false (s := 12) (b' := false) rfl rfl nofun ?_
  refine TO.guard_false (s := 12) (b' := false) rfl rfl nofun ?_
  refine TO.guard_false (s := 12) (b' := false) rfl rfl nofun ?_
  refine TO.guard_false (s := 12) (b' := false) rfl rfl nofun ?_
  refine rdx (rd_pick_false (v := .bool _) rfl rfl) ?_
  refine rdx (rd_assign (v := .bool _) rfl) ?_
  refine TO.nil (TQ.then_normal (T.seq (T.region ?_)))
  refine rdx (rd_move (v := .bool _) rfl) ?_
  refine rdx (rd_move (v := .bool _) rfl) ?_
  refine TO.guard_false (s := 20) (b' := false) rfl rfl nofun ?_
  refine TO.guard_false (s := 20) (b' := false) rfl rfl nofun ?_
  refine TO.guard_false (s := 20) (b' := false) rfl rfl nofun ?_
  refine rdx (rd_pick_false (v := .bool _) rfl rfl) ?_
  refine rdx (rd_move (v := .bool _) rfl) ?_
  refine TO.guard_false (s := 25) (b' := false) rfl rfl nofun ?_
  refine TO.guard_false (s := 25) (b' := false) rfl rfl nofun ?_
  refine TO.guard_false (s := 25) (b' := false) rfl rfl nofun ?_
  refine rdx (rd_pick_false (v := .bool _) rfl rfl) ?_
  refine rdx (rd_assign (v := .bool _) rfl) ?_
  refine TO.nil (TQ.then_normal (T.ret ?_))
  refine TQ.value ?_ (res1 Tryz.results60 (Res.tmp (v := .bool _) rfl)) _ (.inl rfl)
  show Value.bool _ = Value.bool _; simp [proxyOk, h2, h3]
 refine TO.guard_true (s := 12) rfl rfl ?_
 refine rdx (rd_fieldAddr Tryz.field40_0 rfl) ?_
 refine TO.guard_true (s := 12) rfl rfl ?_
 refine rdx (rd_load (v := .int _ _) Tryz.one3 rfl (Has.own 0 rfl) rfl) ?_
 refine TO.guard_true (s := 12) rfl rfl ?_
 refine rdx (rd_fieldAddr Tryz.field40_1 rfl) ?_
 refine TO.guard_true (s := 12) rfl rfl ?_
 refine rdx (rd_load (v := .int _ _) Tryz.one3 rfl (Has.own 0 rfl) rfl) ?_
 refine TO.guard_true (s := 12) rfl rfl ?_
 refine rdx (rd_neq rfl rfl) ?_
 refine rdx (rd_pick_true (v := .bool _) rfl rfl) ?_
 refine rdx (rd_assign (v := .bool _) rfl) ?_
 refine TO.nil (TQ.then_normal (T.seq (T.region ?_)))
 refine rdx (rd_move (v := .bool _) rfl) ?_
 refine rdx (rd_move (v := .bool _) rfl) ?_
 refine TO.decide_ft (s := 20) rfl (fun h4 => ?_) (fun h4 => ?_)
 ·refine TO.guard_false (s := 20) (b' := false) rfl rfl nofun ?_
  refine TO.guard_false (s := 20) (b' := false) rfl rfl nofun ?_
  refine TO.guard_false (s := 20) (b' := false) rfl rfl nofun ?_
  refine rdx (rd_pick_false (v := .bool _) rfl rfl) ?_
  refine rdx (rd_move (v := .bool _) rfl) ?_
  refine TO.guard_false (s := 25) (b' := false) rfl rfl nofun ?_
  refine TO.guard_false (s := 25) (b' := false) rfl rfl nofun ?_
  refine TO.guard_false (s := 25) (b' := false) rfl rfl nofun ?_
  refine rdx (rd_pick_false (v := .bool _) rfl rfl) ?_
  refine rdx (rd_assign (v := .bool _) rfl) ?_
  refine TO.nil (TQ.then_normal (T.ret ?_))
  refine TQ.value ?_ (res1 Tryz.results60 (Res.tmp (v := .bool _) rfl)) _ (.inl rfl)
  show Value.bool _ = Value.bool _; simp [proxyOk, h2, h3, h4]
 refine TO.guard_true (s := 20) rfl rfl ?_
 refine rdx (rd_fieldAddr Tryz.field40_2 rfl) ?_
 refine TO.guard_true (s := 20) rfl rfl ?_
 refine rdx (rd_load_agg (cs := #[.int _ _, .int _ _]) Tryz.agg27 rfl (Has.own 0 rfl) rfl rfl) ?_
 refine TO.guard_true (s := 20) rfl rfl ?_
 refine TO.fn Tryz.enters81 (c_wish_isRange _ _) rfl Reads0 ?_
 refine rdx (rd_pick_true (v := .bool _) rfl rfl) ?_
 refine rdx (rd_move (v := .bool _) rfl) ?_
 refine TO.decide_ft (s := 25) rfl (fun h5 => ?_) (fun h5 => ?_)
 ·refine TO.guard_false (s := 25) (b' := false) rfl rfl nofun ?_
  refine TO.guard_false (s := 25) (b' := false) rfl rfl nofun ?_
  refine TO.guard_false (s := 25) (b' := false) rfl rfl nofun ?_
  refine rdx (rd_pick_false (v := .bool _) rfl rfl) ?_
  refine rdx (rd_assign (v := .bool _) rfl) ?_
  refine TO.nil (TQ.then_normal (T.ret ?_))
  refine TQ.value ?_ (res1 Tryz.results60 (Res.tmp (v := .bool _) rfl)) _ (.inl rfl)
  show Value.bool _ = Value.bool _; simp [proxyOk, h2, h3, h4, h5]
 refine TO.guard_true (s := 25) rfl rfl ?_
 refine rdx (rd_fieldAddr Tryz.field40_3 rfl) ?_
 refine TO.guard_true (s := 25) rfl rfl ?_
 refine rdx (rd_load_agg (cs := #[.int _ _, .int _ _]) Tryz.agg28 rfl (Has.own 0 rfl) rfl rfl) ?_
 refine TO.guard_true (s := 25) rfl rfl ?_
 refine TO.fn Tryz.enters82 (c_wish_isSpell _ _) rfl Reads0 ?_
 refine rdx (rd_pick_true (v := .bool _) rfl rfl) ?_
 refine rdx (rd_assign (v := .bool _) rfl) ?_
 refine TO.nil (TQ.then_normal (T.ret ?_))
 refine TQ.value ?_ (res1 Tryz.results60 (Res.tmp (v := .bool _) rfl)) _ (.inl rfl)
 show Value.bool _ = Value.bool _; simp [proxyOk, h2, h3, h4, h5]
theorem c_wish_isKey (s : Bytes) : Cv Tryz.prog 43 #[.string (str s)] [] (.bool ((s.length : Int) == 32)) := by
 refine Ctr.intro Tryz.func43 rfl Tryz.ntmps43 (Nat.le_of_ble_eq_true rfl) fun S0 w0 => ?_
 refine T.seq (T.region ?_)
 refine rdx (rd_assign (v := .bool _) rfl) ?_
 refine TO.nil (TQ.then_normal (T.seq (T.region ?_)))
 refine rdx (rd_move (v := .string _) rfl) ?_
 refine rdx (rd_lens' Tryz.under9 rfl) ?_
 refine rdx (rd_eql rfl rfl) ?_
 refine rdx (rd_assign (v := .bool _) rfl) ?_
 refine TO.nil (TQ.then_normal (T.ret ?_))
 refine TQ.value ?_ (res1 Tryz.results43 (Res.tmp (v := .bool _) rfl)) _ (.inl rfl)
 rfl
theorem c_dialtoneref15_in (n low high : Int) : Cv Tryz.prog 73 #[.int .i64 n, .int .i64 low, .int .i64 high] [] (.bool (within n low high)) := by
 refine Ctr.intro Tryz.func73 rfl Tryz.ntmps73 (Nat.le_of_ble_eq_true rfl) fun S0 w0 => ?_
 refine T.seq (T.region ?_)
 refine rdx (rd_assign (v := .bool _) rfl) ?_
 refine TO.nil (TQ.then_normal (T.seq (T.region ?_)))
 refine rdx (rd_move (v := .int _ _) rfl) ?_
 refine rdx (rd_move (v := .int _ _) rfl) ?_
 refine rdx (rd_geq rfl rfl) ?_
 refine rdx (rd_move (v := .bool _) rfl) ?_
 refine TO.decide_ft (s := 10) rfl (fun h1 => ?_) (fun h1 => ?_)
 ·refine TO.guard_false (s := 10) (b' := false) rfl rfl nofun ?_
  refine TO.guard_false (s := 10) (b' := false) rfl rfl nofun ?_
  refine TO.guard_false (s := 10) (b' := false) rfl rfl nofun ?_
  refine rdx (rd_pick_false (v := .bool _) rfl rfl) ?_
  refine rdx (rd_assign (v := .bool _) rfl) ?_
  refine TO.nil (TQ.then_normal (T.ret ?_))
  refine TQ.value ?_ (res1 Tryz.results73 (Res.tmp (v := .bool _) rfl)) _ (.inl rfl)
  show Value.bool _ = Value.bool _; simp [within, h1]
 refine TO.guard_true (s := 10) rfl rfl ?_
 refine rdx (rd_move (v := .int _ _) rfl) ?_
 refine TO.guard_true (s := 10) rfl rfl ?_
 refine rdx (rd_move (v := .int _ _) rfl) ?_
 refine TO.guard_true (s := 10) rfl rfl ?_
 refine rdx (rd_leq rfl rfl) ?_
 refine rdx (rd_pick_true (v := .bool _) rfl rfl) ?_
 refine rdx (rd_assign (v := .bool _) rfl) ?_
 refine TO.nil (TQ.then_normal (T.ret ?_))
 refine TQ.value ?_ (res1 Tryz.results73 (Res.tmp (v := .bool _) rfl)) _ (.inl rfl)
 show Value.bool _ = Value.bool _; simp [within, h1]
theorem c_ref15_Range (lo hi : Int) : Cv Tryz.prog 89 #[.agg #[.int .i64 lo, .int .i64 hi]] [] (.bool (rangeOk lo hi)) := by
 refine Ctr.intro Tryz.func89 rfl Tryz.ntmps89 (Nat.le_of_ble_eq_true rfl) fun S0 w0 => ?_
 refine T.seq (T.region ?_)
 refine TO.box (v := .agg #[.int _ _, .int _ _]) rfl (fun b1 => ?_)
 refine rdx (rd_assign (v := .bool _) rfl) ?_
 refine TO.nil (TQ.then_normal (T.seq (T.region ?_)))
 refine rdx (rd_fieldAddr Tryz.field27_0 rfl) ?_
 refine rdx (rd_load (v := .int _ _) Tryz.one3 rfl (Has.own 0 rfl) rfl) ?_
 refine rdx (rd_geq rfl rfl) ?_
 refine rdx (rd_move (v := .bool _) rfl) ?_
 refine TO.decide_ft (s := 6) rfl (fun h2 => ?_) (fun h2 => ?_)
 ·refine TO.guard_false (s := 6) (b' := false) rfl rfl nofun ?_
  refine TO.guard_false (s := 6) (b' := false) rfl rfl nofun ?_
  refine TO.guard_false (s := 6) (b' := false) rfl rfl nofun ?_
  refine TO.guard_false (s := 6) (b' := false) rfl rfl nofun ?_
  refine TO.guard_false (s := 6) (b' := false) rfl rfl nofun ?_
  refine rdx (rd_pick_false (v := .bool _) rfl rfl) ?_
  refine rdx (rd_move (v := .bool _) rfl) ?_
  refine TO.guard_false (s := 13) (b' := false) rfl rfl nofun ?_
  refine TO.guard_false (s := 13) (b' := false) rfl rfl nofun ?_
  refine TO.guard_false (s := 13) (b' := false) rfl rfl nofun ?_
  refine rdx (rd_pick_false (v := .bool _) rfl rfl) ?_
  refine rdx (rd_assign (v := .bool _) rfl) ?_
  refine TO.nil (TQ.then_normal (T.ret ?_))
  refine TQ.value ?_ (res1 Tryz.results89 (Res.tmp (v := .bool _) rfl)) _ (.inl rfl)
  show Value.bool _ = Value.bool _; simp [rangeOk, h2]
 refine TO.guard_true (s := 6) rfl rfl ?_
 refine rdx (rd_fieldAddr Tryz.field27_0 rfl) ?_
 refine TO.guard_true (s := 6) rfl rfl ?_
 refine rdx (rd_load (v := .int _ _) Tryz.one3 rfl (Has.own 0 rfl) rfl) ?_
 refine TO.guard_true (s := 6) rfl rfl ?_
 refine rdx (rd_fieldAddr Tryz.field27_1 rfl) ?_
 refine TO.guard_true (s := 6) rfl rfl ?_
 refine rdx (rd_load (v := .int _ _) Tryz.one3 rfl (Has.own 0 rfl) rfl) ?_
 refine TO.guard_true (s := 6) rfl rfl ?_
 refine rdx (rd_lss rfl rfl) ?_
 refine rdx (rd_pick_true (v := .bool _) rfl rfl) ?_
 refine rdx (rd_move (v := .bool _) rfl) ?_
 refine TO.decide_ft (s := 13) rfl (fun h3 => ?_) (fun h3 => ?_)
 ·refine TO.guard_false (s := 13) (b' := false) rfl rfl nofun ?_
  refine TO.guard_false (s := 13) (b' := false) rfl rfl nofun ?_
  refine TO.guard_false (s := 13) (b' := false) rfl rfl nofun ?_
  refine rdx (rd_pick_false (v := .bool _) rfl rfl) ?_
  refine rdx (rd_assign (v := .bool _) rfl) ?_
  refine TO.nil (TQ.then_normal (T.ret ?_))
  refine TQ.value ?_ (res1 Tryz.results89 (Res.tmp (v := .bool _) rfl)) _ (.inl rfl)
  show Value.bool _ = Value.bool _; simp [rangeOk, h2, h3]
 refine TO.guard_true (s := 13) rfl rfl ?_
 refine rdx (rd_fieldAddr Tryz.field27_1 rfl) ?_
 refine TO.guard_true (s := 13) rfl rfl ?_
 refine rdx (rd_load (v := .int _ _) Tryz.one3 rfl (Has.own 0 rfl) rfl) ?_
 refine TO.guard_true (s := 13) rfl rfl ?_
 refine rdx (rd_leq rfl rfl) ?_
 refine rdx (rd_pick_true (v := .bool _) rfl rfl) ?_
 refine rdx (rd_assign (v := .bool _) rfl) ?_
 refine TO.nil (TQ.then_normal (T.ret ?_))
 refine TQ.value ?_ (res1 Tryz.results89 (Res.tmp (v := .bool _) rfl)) _ (.inl rfl)
 show Value.bool _ = Value.bool _; simp [rangeOk, h2, h3]
theorem c_ref15_Spell (lo hi : Int) : Cv Tryz.prog 90 #[.agg #[.int .i64 lo, .int .i64 hi]] [] (.bool (spellOk lo hi)) := by
 refine Ctr.intro Tryz.func90 rfl Tryz.ntmps90 (Nat.le_of_ble_eq_true rfl) fun S0 w0 => ?_
 refine T.seq (T.region ?_)
 refine TO.box (v := .agg #[.int _ _, .int _ _]) rfl (fun b1 => ?_)
 refine rdx (rd_assign (v := .bool _) rfl) ?_
 refine TO.nil (TQ.then_normal (T.seq (T.region ?_)))
 refine rdx (rd_fieldAddr Tryz.field28_0 rfl) ?_
 refine rdx (rd_load (v := .int _ _) Tryz.one3 rfl (Has.own 0 rfl) rfl) ?_
 refine rdx (rd_geq rfl rfl) ?_
 refine rdx (rd_move (v := .bool _) rfl) ?_
 refine TO.decide_ft (s := 6) rfl (fun h2 => ?_) (fun h2 => ?_)
 ·refine TO.guard_false (s := 6) (b' := false) rfl rfl nofun ?_
  refine TO.guard_false (s := 6) (b' := false) rfl rfl nofun ?_
  refine TO.guard_false (s := 6) (b' := false) rfl rfl nofun ?_
  refine TO.guard_false (s := 6) (b' := false) rfl rfl nofun ?_
  refine TO.guard_false (s := 6) (b' := false) rfl rfl nofun ?_
  refine rdx (rd_pick_false (v := .bool _) rfl rfl) ?_
  refine rdx (rd_move (v := .bool _) rfl) ?_
  refine TO.guard_false (s := 13) (b' := false) rfl rfl nofun ?_
  refine TO.guard_false (s := 13) (b' := false) rfl rfl nofun ?_
  refine TO.guard_false (s := 13) (b' := false) rfl rfl nofun ?_
  refine rdx (rd_pick_false (v := .bool _) rfl rfl) ?_
  refine rdx (rd_assign (v := .bool _) rfl) ?_
  refine TO.nil (TQ.then_normal (T.ret ?_))
  refine TQ.value ?_ (res1 Tryz.results90 (Res.tmp (v := .bool _) rfl)) _ (.inl rfl)
  show Value.bool _ = Value.bool _; simp [spellOk, h2]
 refine TO.guard_true (s := 6) rfl rfl ?_
 refine rdx (rd_fieldAddr Tryz.field28_0 rfl) ?_
 refine TO.guard_true (s := 6) rfl rfl ?_
 refine rdx (rd_load (v := .int _ _) Tryz.one3 rfl (Has.own 0 rfl) rfl) ?_
 refine TO.guard_true (s := 6) rfl rfl ?_
 refine rdx (rd_fieldAddr Tryz.field28_1 rfl) ?_
 refine TO.guard_true (s := 6) rfl rfl ?_
 refine rdx (rd_load (v := .int _ _) Tryz.one3 rfl (Has.own 0 rfl) rfl) ?_
 refine TO.guard_true (s := 6) rfl rfl ?_
 refine rdx (rd_lss rfl rfl) ?_
 refine rdx (rd_pick_true (v := .bool _) rfl rfl) ?_
 refine rdx (rd_move (v := .bool _) rfl) ?_
 refine TO.decide_ft (s := 13) rfl (fun h3 => ?_) (fun h3 => ?_)
 ·refine TO.guard_false (s := 13) (b' := false) rfl rfl nofun ?_
  refine TO.guard_false (s := 13) (b' := false) rfl rfl nofun ?_
  refine TO.guard_false (s := 13) (b' := false) rfl rfl nofun ?_
  refine rdx (rd_pick_false (v := .bool _) rfl rfl) ?_
  refine rdx (rd_assign (v := .bool _) rfl) ?_
  refine TO.nil (TQ.then_normal (T.ret ?_))
  refine TQ.value ?_ (res1 Tryz.results90 (Res.tmp (v := .bool _) rfl)) _ (.inl rfl)
  show Value.bool _ = Value.bool _; simp [spellOk, h2, h3]
 refine TO.guard_true (s := 13) rfl rfl ?_
 refine rdx (rd_fieldAddr Tryz.field28_1 rfl) ?_
 refine TO.guard_true (s := 13) rfl rfl ?_
 refine rdx (rd_load (v := .int _ _) Tryz.one3 rfl (Has.own 0 rfl) rfl) ?_
 refine TO.guard_true (s := 13) rfl rfl ?_
 refine rdx (rd_leq rfl rfl) ?_
 refine rdx (rd_pick_true (v := .bool _) rfl rfl) ?_
 refine rdx (rd_assign (v := .bool _) rfl) ?_
 refine TO.nil (TQ.then_normal (T.ret ?_))
 refine TQ.value ?_ (res1 Tryz.results90 (Res.tmp (v := .bool _) rfl)) _ (.inl rfl)
 show Value.bool _ = Value.bool _; simp [spellOk, h2, h3]
theorem c_ref15_wish (w : Wish) : Cv Tryz.prog 55 #[wishV w] [] (.bool (wishOk w)) := by
 refine Ctr.intro Tryz.func55 rfl Tryz.ntmps55 (Nat.le_of_ble_eq_true rfl) fun S0 w0 => ?_
 refine T.seq (T.region ?_)
 refine TO.box (v := .agg #[.int _ _, .int _ _, .int _ _, .int _ _, .int _ _, .int _ _, .int _ _, .int _ _, .string _]) rfl (fun b1 => ?_)
 refine rdx (rd_assign (v := .bool _) rfl) ?_
 refine TO.nil (TQ.then_normal (T.seq (T.region ?_)))
 refine rdx (rd_fieldAddr Tryz.field30_0 rfl) ?_
 refine rdx (rd_load (v := .int _ _) Tryz.one3 rfl (Has.own 0 rfl) rfl) ?_
 refine TO.fn Tryz.enters73 (c_dialtoneref15_in _ _ _) rfl Reads0 ?_
 refine rdx (rd_move (v := .bool _) rfl) ?_
 refine TO.decide_ft (s := 6) rfl (fun h2 => ?_) (fun h2 => ?_)
 ·refine TO.guard_false (s := 6) (b' := false) rfl rfl nofun ?_
  refine TO.guard_false (s := 6) (b' := false) rfl rfl nofun ?_
  refine TO.guard_false (s := 6) (b' := false) rfl rfl nofun ?_
  refine rdx (rd_pick_false (v := .bool _) rfl rfl) ?_
  refine rdx (rd_move (v := .bool _) rfl) ?_
  refine TO.guard_false (s := 11) (b' := false) rfl rfl nofun ?_
  refine TO.guard_false (s := 11) (b' := false) rfl rfl nofun ?_
  refine TO.guard_false (s := 11) (b' := false) rfl rfl nofun ?_
  refine rdx (rd_pick_false (v := .bool _) rfl rfl) ?_
  refine rdx (rd_move (v := .bool _) rfl) ?_
  refine TO.guard_false (s := 16) (b' := false) rfl rfl nofun ?_
  refine TO.guard_false (s := 16) (b' := false) rfl rfl nofun ?_
  refine TO.guard_false (s := 16) (b' := false) rfl rfl nofun ?_
  refine rdx (rd_pick_false (v := .bool _) rfl rfl) ?_
  refine rdx (rd_move (v := .bool _) rfl) ?_
  refine TO.guard_false (s := 21) (b' := false) rfl rfl nofun ?_
  refine TO.guard_false (s := 21) (b' := false) rfl rfl nofun ?_
  refine TO.guard_false (s := 21) (b' := false) rfl rfl nofun ?_
  refine rdx (rd_pick_false (v := .bool _) rfl rfl) ?_
  refine rdx (rd_move (v := .bool _) rfl) ?_
  refine TO.guard_false (s := 26) (b' := false) rfl rfl nofun ?_
  refine TO.guard_false (s := 26) (b' := false) rfl rfl nofun ?_
  refine TO.guard_false (s := 26) (b' := false) rfl rfl nofun ?_
  refine rdx (rd_pick_false (v := .bool _) rfl rfl) ?_
  refine rdx (rd_assign (v := .bool _) rfl) ?_
  refine TO.nil (TQ.then_normal (T.ret ?_))
  refine TQ.value ?_ (res1 Tryz.results55 (Res.tmp (v := .bool _) rfl)) _ (.inl rfl)
  show Value.bool _ = Value.bool _; simp [wishOk, h2]
 refine TO.guard_true (s := 6) rfl rfl ?_
 refine rdx (rd_fieldAddr Tryz.field30_1 rfl) ?_
 refine TO.guard_true (s := 6) rfl rfl ?_
 refine rdx (rd_load (v := .int _ _) Tryz.one3 rfl (Has.own 0 rfl) rfl) ?_
 refine TO.guard_true (s := 6) rfl rfl ?_
 refine TO.fn Tryz.enters73 (c_dialtoneref15_in _ _ _) rfl Reads0 ?_
 refine rdx (rd_pick_true (v := .bool _) rfl rfl) ?_
 refine rdx (rd_move (v := .bool _) rfl) ?_
 refine TO.decide_ft (s := 11) rfl (fun h3 => ?_) (fun h3 => ?_)
 ·refine TO.guard_false (s := 11) (b' := false) rfl rfl nofun ?_
  refine TO.guard_false (s := 11) (b' := false) rfl rfl nofun ?_
  refine TO.guard_false (s := 11) (b' := false) rfl rfl nofun ?_
  refine rdx (rd_pick_false (v := .bool _) rfl rfl) ?_
  refine rdx (rd_move (v := .bool _) rfl) ?_
  refine TO.guard_false (s := 16) (b' := false) rfl rfl nofun ?_
  refine TO.guard_false (s := 16) (b' := false) rfl rfl nofun ?_
  refine TO.guard_false (s := 16) (b' := false) rfl rfl nofun ?_
  refine rdx (rd_pick_false (v := .bool _) rfl rfl) ?_
  refine rdx (rd_move (v := .bool _) rfl) ?_
  refine TO.guard_false (s := 21) (b' := false) rfl rfl nofun ?_
  refine TO.guard_false (s := 21) (b' := false) rfl rfl nofun ?_
  refine TO.guard_false (s := 21) (b' := false) rfl rfl nofun ?_
  refine rdx (rd_pick_false (v := .bool _) rfl rfl) ?_
  refine rdx (rd_move (v := .bool _) rfl) ?_
  refine TO.guard_false (s := 26) (b' := false) rfl rfl nofun ?_
  refine TO.guard_false (s := 26) (b' := false) rfl rfl nofun ?_
  refine TO.guard_false (s := 26) (b' := false) rfl rfl nofun ?_
  refine rdx (rd_pick_false (v := .bool _) rfl rfl) ?_
  refine rdx (rd_assign (v := .bool _) rfl) ?_
  refine TO.nil (TQ.then_normal (T.ret ?_))
  refine TQ.value ?_ (res1 Tryz.results55 (Res.tmp (v := .bool _) rfl)) _ (.inl rfl)
  show Value.bool _ = Value.bool _; simp [wishOk, h2, h3]
 refine TO.guard_true (s := 11) rfl rfl ?_
 refine rdx (rd_fieldAddr Tryz.field30_2 rfl) ?_
 refine TO.guard_true (s := 11) rfl rfl ?_
 refine rdx (rd_load_agg (cs := #[.int _ _, .int _ _]) Tryz.agg27 rfl (Has.own 0 rfl) rfl rfl) ?_
 refine TO.guard_true (s := 11) rfl rfl ?_
 refine TO.fn Tryz.enters89 (c_ref15_Range _ _) rfl Reads0 ?_
 refine rdx (rd_pick_true (v := .bool _) rfl rfl) ?_
 refine rdx (rd_move (v := .bool _) rfl) ?_
 refine TO.decide_ft (s := 16) rfl (fun h4 => ?_) (fun h4 => ?_)
 ·refine TO.guard_false (s := 16) (b' := false) rfl rfl nofun ?_
  refine TO.guard_false (s := 16) (b' := false) rfl rfl nofun ?_
  refine TO.guard_false (s := 16) (b' := false) rfl rfl nofun ?_
  refine rdx (rd_pick_false (v := .bool _) rfl rfl) ?_
  refine rdx (rd_move (v := .bool _) rfl) ?_
  refine TO.guard_false (s := 21) (b' := false) rfl rfl nofun ?_
  refine TO.guard_false (s := 21) (b' := false) rfl rfl nofun ?_
  refine TO.guard_false (s := 21) (b' := false) rfl rfl nofun ?_
  refine rdx (rd_pick_false (v := .bool _) rfl rfl) ?_
  refine rdx (rd_move (v := .bool _) rfl) ?_
  refine TO.guard_false (s := 26) (b' := false) rfl rfl nofun ?_
  refine TO.guard_false (s := 26) (b' := false) rfl rfl nofun ?_
  refine TO.guard_false (s := 26) (b' := false) rfl rfl nofun ?_
  refine rdx (rd_pick_false (v := .bool _) rfl rfl) ?_
  refine rdx (rd_assign (v := .bool _) rfl) ?_
  refine TO.nil (TQ.then_normal (T.ret ?_))
  refine TQ.value ?_ (res1 Tryz.results55 (Res.tmp (v := .bool _) rfl)) _ (.inl rfl)
  show Value.bool _ = Value.bool _; simp [wishOk, h2, h3, h4]
 refine TO.guard_true (s := 16) rfl rfl ?_
 refine rdx (rd_fieldAddr Tryz.field30_3 rfl) ?_
 refine TO.guard_true (s := 16) rfl rfl ?_
 refine rdx (rd_load (v := .int _ _) Tryz.one3 rfl (Has.own 0 rfl) rfl) ?_
 refine TO.guard_true (s := 16) rfl rfl ?_
 refine TO.fn Tryz.enters73 (c_dialtoneref15_in _ _ _) rfl Reads0 ?_
 refine rdx (rd_pick_true (v := .bool _) rfl rfl) ?_
 refine rdx (rd_move (v := .bool _) rfl) ?_
 refine TO.decide_ft (s := 21) rfl (fun h5 => ?_) (fun h5 => ?_)
 ·refine TO.guard_false (s := 21) (b' := false) rfl rfl nofun ?_
  refine TO.guard_false (s := 21) (b' := false) rfl rfl nofun ?_
  refine TO.guard_false (s := 21) (b' := false) rfl rfl nofun ?_
  refine rdx (rd_pick_false (v := .bool _) rfl rfl) ?_
  refine rdx (rd_move (v := .bool _) rfl) ?_
  refine TO.guard_false (s := 26) (b' := false) rfl rfl nofun ?_
  refine TO.guard_false (s := 26) (b' := false) rfl rfl nofun ?_
  refine TO.guard_false (s := 26) (b' := false) rfl rfl nofun ?_
  refine rdx (rd_pick_false (v := .bool _) rfl rfl) ?_
  refine rdx (rd_assign (v := .bool _) rfl) ?_
  refine TO.nil (TQ.then_normal (T.ret ?_))
  refine TQ.value ?_ (res1 Tryz.results55 (Res.tmp (v := .bool _) rfl)) _ (.inl rfl)
  show Value.bool _ = Value.bool _; simp [wishOk, h2, h3, h4, h5]
 refine TO.guard_true (s := 21) rfl rfl ?_
 refine rdx (rd_fieldAddr Tryz.field30_4 rfl) ?_
 refine TO.guard_true (s := 21) rfl rfl ?_
 refine rdx (rd_load (v := .int _ _) Tryz.one3 rfl (Has.own 0 rfl) rfl) ?_
 refine TO.guard_true (s := 21) rfl rfl ?_
 refine TO.fn Tryz.enters73 (c_dialtoneref15_in _ _ _) rfl Reads0 ?_
 refine rdx (rd_pick_true (v := .bool _) rfl rfl) ?_
 refine rdx (rd_move (v := .bool _) rfl) ?_
 refine TO.decide_ft (s := 26) rfl (fun h6 => ?_) (fun h6 => ?_)
 ·refine TO.guard_false (s := 26) (b' := false) rfl rfl nofun ?_
  refine TO.guard_false (s := 26) (b' := false) rfl rfl nofun ?_
  refine TO.guard_false (s := 26) (b' := false) rfl rfl nofun ?_
  refine rdx (rd_pick_false (v := .bool _) rfl rfl) ?_
  refine rdx (rd_assign (v := .bool _) rfl) ?_
  refine TO.nil (TQ.then_normal (T.ret ?_))
  refine TQ.value ?_ (res1 Tryz.results55 (Res.tmp (v := .bool _) rfl)) _ (.inl rfl)
  show Value.bool _ = Value.bool _; simp [wishOk, h2, h3, h4, h5, h6]
 refine TO.guard_true (s := 26) rfl rfl ?_
 refine rdx (rd_fieldAddr Tryz.field30_5 rfl) ?_
 refine TO.guard_true (s := 26) rfl rfl ?_
 refine rdx (rd_load_agg (cs := #[.int _ _, .int _ _]) Tryz.agg28 rfl (Has.own 0 rfl) rfl rfl) ?_
 refine TO.guard_true (s := 26) rfl rfl ?_
 refine TO.fn Tryz.enters90 (c_ref15_Spell _ _) rfl Reads0 ?_
 refine rdx (rd_pick_true (v := .bool _) rfl rfl) ?_
 refine rdx (rd_assign (v := .bool _) rfl) ?_
 refine TO.nil (TQ.then_normal (T.ret ?_))
 refine TQ.value ?_ (res1 Tryz.results55 (Res.tmp (v := .bool _) rfl)) _ (.inl rfl)
 show Value.bool _ = Value.bool _; simp [wishOk, h2, h3, h4, h5, h6]
theorem c_ref15_proxy (p : Proxy) : Cv Tryz.prog 56 #[proxyV p] [] (.bool (proxyOk p)) := by
 refine Ctr.intro Tryz.func56 rfl Tryz.ntmps56 (Nat.le_of_ble_eq_true rfl) fun S0 w0 => ?_
 refine T.seq (T.region ?_)
 refine TO.box (v := .agg #[.int _ _, .int _ _, .int _ _, .int _ _, .int _ _, .int _ _, .string _]) rfl (fun b1 => ?_)
 refine rdx (rd_assign (v := .bool _) rfl) ?_
 refine TO.nil (TQ.then_normal (T.seq (T.region ?_)))
 refine rdx (rd_fieldAddr Tryz.field40_0 rfl) ?_
 refine rdx (rd_load (v := .int _ _) Tryz.one3 rfl (Has.own 0 rfl) rfl) ?_
 refine TO.fn Tryz.enters73 (c_dialtoneref15_in _ _ _) rfl Reads0 ?_
 refine rdx (rd_move (v := .bool _) rfl) ?_
 refine TO.decide_ft (s := 6) rfl (fun h2 => ?_) (fun h2 => ?_)
 ·refine TO.guard_false (s := 6) (b' := false) rfl rfl nofun ?_
  refine TO.guard_false (s := 6) (b' := false) rfl rfl nofun ?_
  refine TO.guard_false (s := 6) (b' := false) rfl rfl nofun ?_
  refine rdx (rd_pick_false (v := .bool _) rfl rfl) ?_
  refine rdx (rd_move (v := .bool _) rfl) ?_
  refine TO.guard_false (s := 11) (b' := false) rfl rfl nofun ?_
  refine TO.guard_false (s := 11) (b' := false) rfl rfl nofun ?_
  refine TO.guard_false (s := 11) (b' := false) rfl rfl nofun ?_
  refine TO.guard_false (s := 11) (b' := false) rfl rfl nofun ?_
  refine TO.guard_false (s := 11) (b' := false) rfl rfl nofun ?_
  refine rdx (rd_pick_false (v := .bool _) rfl rfl) ?_
  refine rdx (rd_move (v := .bool _) rfl) ?_
  refine TO.guard_false (s := 18) (b' := false) rfl rfl nofun ?_
  refine TO.guard_false (s := 18) (b' := false) rfl rfl nofun ?_
  refine TO.guard_false (s := 18) (b' := false) rfl rfl nofun ?_
  refine rdx (rd_pick_false (v := .bool _) rfl rfl) ?_
  refine rdx (rd_move (v := .bool _) rfl) ?_
  refine TO.guard_false (s := 23) (b' := false) rfl rfl nofun ?_
  refine TO.guard_false (s := 23) (b' := false) rfl rfl nofun ?_
  refine TO.guard_false (s := 23) (b' := false) rfl rfl nofun ?_
  refine rdx (rd_pick_false (v := .bool _) rfl rfl) ?_
  refine rdx (rd_assign (v := .bool _) rfl) ?_
  refine TO.nil (TQ.then_normal (T.ret ?_))
  refine TQ.value ?_ (res1 Tryz.results56 (Res.tmp (v := .bool _) rfl)) _ (.inl rfl)
  show Value.bool _ = Value.bool _; simp [proxyOk, h2]
 refine TO.guard_true (s := 6) rfl rfl ?_
 refine rdx (rd_fieldAddr Tryz.field40_1 rfl) ?_
 refine TO.guard_true (s := 6) rfl rfl ?_
 refine rdx (rd_load (v := .int _ _) Tryz.one3 rfl (Has.own 0 rfl) rfl) ?_
 refine TO.guard_true (s := 6) rfl rfl ?_
 refine TO.fn Tryz.enters73 (c_dialtoneref15_in _ _ _) rfl Reads0 ?_
 refine rdx (rd_pick_true (v := .bool _) rfl rfl) ?_
 refine rdx (rd_move (v := .bool _) rfl) ?_
 refine TO.decide_ft (s := 11) rfl (fun h3 => ?_) (fun h3 => ?_)
 ·refine TO.guard_false (s := 11) (b' := false) rfl rfl nofun ?_
  refine TO.guard_false (s := 11) (b' := false) rfl rfl nofun ?_
  refine TO.guard_false (s := 11) (b' := false) rfl rfl nofun ?_
  refine TO.guard_false (s := 11) (b' := false) rfl rfl nofun ?_
  refine TO.guard_false (s := 11) (b' := false) rfl rfl nofun ?_
  refine rdx (rd_pick_false (v := .bool _) rfl rfl) ?_
  refine rdx (rd_move (v := .bool _) rfl) ?_
  refine TO.guard_false (s := 18) (b' := false) rfl rfl nofun ?_
  refine TO.guard_false (s := 18) (b' := false) rfl rfl nofun ?_
  refine TO.guard_false (s := 18) (b' := false) rfl rfl nofun ?_
  refine rdx (rd_pick_false (v := .bool _) rfl rfl) ?_
  refine rdx (rd_move (v := .bool _) rfl) ?_
  refine TO.guard_false (s := 23) (b' := false) rfl rfl nofun ?_
  refine TO.guard_false (s := 23) (b' := false) rfl rfl nofun ?_
  refine TO.guard_false (s := 23) (b' := false) rfl rfl nofun ?_
  refine rdx (rd_pick_false (v := .bool _) rfl rfl) ?_
  refine rdx (rd_assign (v := .bool _) rfl) ?_
  refine TO.nil (TQ.then_normal (T.ret ?_))
  refine TQ.value ?_ (res1 Tryz.results56 (Res.tmp (v := .bool _) rfl)) _ (.inl rfl)
  show Value.bool _ = Value.bool _; simp [proxyOk, h2, h3]
 refine TO.guard_true (s := 11) rfl rfl ?_
 refine rdx (rd_fieldAddr Tryz.field40_0 rfl) ?_
 refine TO.guard_true (s := 11) rfl rfl ?_
 refine rdx (rd_load (v := .int _ _) Tryz.one3 rfl (Has.own 0 rfl) rfl) ?_
 refine TO.guard_true (s := 11) rfl rfl ?_
 refine rdx (rd_fieldAddr Tryz.field40_1 rfl) ?_
 refine TO.guard_true (s := 11) rfl rfl ?_
 refine rdx (rd_load (v := .int _ _) Tryz.one3 rfl (Has.own 0 rfl) rfl) ?_
 refine TO.guard_true (s := 11) rfl rfl ?_
 refine rdx (rd_neq rfl rfl) ?_
 refine rdx (rd_pick_true (v := .bool _) rfl rfl) ?_
 refine rdx (rd_move (v := .bool _) rfl) ?_
 refine TO.decide_ft (s := 18) rfl (fun h4 => ?_) (fun h4 => ?_)
 ·refine TO.guard_false (s := 18) (b' := false) rfl rfl nofun ?_
  refine TO.guard_false (s := 18) (b' := false) rfl rfl nofun ?_
  refine TO.guard_false (s := 18) (b' := false) rfl rfl nofun ?_
  refine rdx (rd_pick_false (v := .bool _) rfl rfl) ?_
  refine rdx (rd_move (v := .bool _) rfl) ?_
  refine TO.guard_false (s := 23) (b' := false) rfl rfl nofun ?_
  refine TO.guard_false (s := 23) (b' := false) rfl rfl nofun ?_
  refine TO.guard_false (s := 23) (b' := false) rfl rfl nofun ?_
  refine rdx (rd_pick_false (v := .bool _) rfl rfl) ?_
  refine rdx (rd_assign (v := .bool _) rfl) ?_
  refine TO.nil (TQ.then_normal (T.ret ?_))
  refine TQ.value ?_ (res1 Tryz.results56 (Res.tmp (v := .bool _) rfl)) _ (.inl rfl)
  show Value.bool _ = Value.bool _; simp [proxyOk, h2, h3, h4]
 refine TO.guard_true (s := 18) rfl rfl ?_
 refine rdx (rd_fieldAddr Tryz.field40_2 rfl) ?_
 refine TO.guard_true (s := 18) rfl rfl ?_
 refine rdx (rd_load_agg (cs := #[.int _ _, .int _ _]) Tryz.agg27 rfl (Has.own 0 rfl) rfl rfl) ?_
 refine TO.guard_true (s := 18) rfl rfl ?_
 refine TO.fn Tryz.enters89 (c_ref15_Range _ _) rfl Reads0 ?_
 refine rdx (rd_pick_true (v := .bool _) rfl rfl) ?_
 refine rdx (rd_move (v := .bool _) rfl) ?_
 refine TO.decide_ft (s := 23) rfl (fun h5 => ?_) (fun h5 => ?_)
 ·refine TO.guard_false (s := 23) (b' := false) rfl rfl nofun ?_
  refine TO.guard_false (s := 23) (b' := false) rfl rfl nofun ?_
  refine TO.guard_false (s := 23) (b' := false) rfl rfl nofun ?_
  refine rdx (rd_pick_false (v := .bool _) rfl rfl) ?_
  refine rdx (rd_assign (v := .bool _) rfl) ?_
  refine TO.nil (TQ.then_normal (T.ret ?_))
  refine TQ.value ?_ (res1 Tryz.results56 (Res.tmp (v := .bool _) rfl)) _ (.inl rfl)
  show Value.bool _ = Value.bool _; simp [proxyOk, h2, h3, h4, h5]
 refine TO.guard_true (s := 23) rfl rfl ?_
 refine rdx (rd_fieldAddr Tryz.field40_3 rfl) ?_
 refine TO.guard_true (s := 23) rfl rfl ?_
 refine rdx (rd_load_agg (cs := #[.int _ _, .int _ _]) Tryz.agg28 rfl (Has.own 0 rfl) rfl rfl) ?_
 refine TO.guard_true (s := 23) rfl rfl ?_
 refine TO.fn Tryz.enters90 (c_ref15_Spell _ _) rfl Reads0 ?_
 refine rdx (rd_pick_true (v := .bool _) rfl rfl) ?_
 refine rdx (rd_assign (v := .bool _) rfl) ?_
 refine TO.nil (TQ.then_normal (T.ret ?_))
 refine TQ.value ?_ (res1 Tryz.results56 (Res.tmp (v := .bool _) rfl)) _ (.inl rfl)
 show Value.bool _ = Value.bool _; simp [proxyOk, h2, h3, h4, h5]
end Go.Proofs
end
section
set_option linter.unusedVariables false
set_option linter.unusedSimpArgs false
set_option maxRecDepth 100000
set_option maxHeartbeats 800000
namespace Go.Proofs
open Go.TL
attribute [local irreducible] Go.TL.T Go.TL.TO Go.TL.TQ
theorem c_ref01_zigzag (n : Int) (h1 : -4611686018427387903 ≤ n) (h2 : n ≤ 4611686018427387903) : Cv Tryz.prog 102 #[.int .i64 n] [] (.int .u64 (zig n : Nat)) := by
 refine Ctr.intro Tryz.func102 rfl Tryz.ntmps102 (Nat.le_of_ble_eq_true rfl) fun S0 w0 => ?_
 refine T.seq (T.region ?_)
 refine rdx (rd_assign (v := .int _ _) rfl) ?_
 refine TO.nil (TQ.then_normal (T.seq (T.seq (T.region ?_))))
 refine rdx (rd_move (v := .int _ _) rfl) ?_
 refine rdx (rd_lss rfl rfl) ?_
 refine TO.nil (TQ.then_normal ?_)
 refine T.cond_ft rfl (fun h1 => ?_) (fun h1 => ?_)
 ·try simp only [nrm] at h1
  refine T.skip (TQ.then_normal (T.seq (T.region ?_)))
  refine rdx (rd_move (v := .int _ _) rfl) ?_
  refine rdx (rd_convert Tryz.isome3 Tryz.under146 rfl (wu64 (by omega) (by omega))) ?_
  refine rdx (rd_mul rfl rfl (wu64 (by omega) (by omega))) ?_
  refine rdx (rd_assign (v := .int _ _) rfl) ?_
  refine TO.nil (TQ.then_normal (T.ret ?_))
  refine TQ.value ?_ (res1 Tryz.results102 (Res.tmp (v := .int _ _) rfl)) _ (.inl rfl)
  congr 1
  unfold zig
  split <;> omega
 try simp only [nrm] at h1
 refine T.seq (T.region ?_)
 refine rdx (rd_move (v := .int _ _) rfl) ?_
 refine rdx (rd_neg rfl (w64 (by omega) (by omega))) ?_
 refine rdx (rd_convert Tryz.isome3 Tryz.under146 rfl (wu64 (by omega) (by omega))) ?_
 refine rdx (rd_mul rfl rfl (wu64 (by omega) (by omega))) ?_
 refine rdx (rd_sub rfl rfl (wu64 (by omega) (by omega))) ?_
 refine rdx (rd_assign (v := .int _ _) rfl) ?_
 refine TO.nil (TQ.then_normal (T.ret (TQ.then_ret ?_)))
 refine TQ.value ?_ (res1 Tryz.results102 (Res.tmp (v := .int _ _) rfl)) _ (.inl rfl)
 congr 1
 unfold zig
 split <;> omega
theorem c_ref01_PutInt (n : Int) : Cv Tryz.prog 94 #[.int .i64 n] [] (.tuple #[.string (str (putInt n)), .int .i64 (putErr n)]) := by
 refine Ctr.intro Tryz.func94 rfl Tryz.ntmps94 (Nat.le_of_ble_eq_true rfl) fun S0 w0 => ?_
 refine T.seq (T.region ?_)
 refine rdx (rd_assign (v := .string _) rfl) ?_
 refine rdx (rd_assign (v := .int _ _) rfl) ?_
 refine TO.nil (TQ.then_normal (T.seq (T.seq (T.region ?_))))
 refine rdx (rd_move (v := .int _ _) rfl) ?_
 refine rdx (rd_lss rfl rfl) ?_
 refine rdx (rd_move (v := .bool _) rfl) ?_
 refine TO.decide (s := 8) rfl (fun h1 => ?_) (fun h1 => ?_)
 ·try simp only [nrm] at h1
  refine TO.guard_false (s := 8) (b' := true) rfl rfl nofun ?_
  refine TO.guard_false (s := 8) (b' := true) rfl rfl nofun ?_
  refine rdx (rd_pick_true (v := .bool _) rfl rfl) ?_
  refine TO.nil (TQ.then_normal ?_)
  refine T.cond_true rfl ?_
  refine T.seq (T.region ?_)
  refine rdx (rd_assign (v := .string _) rfl) ?_
  refine rdx (rd_assign (v := .int _ _) rfl) ?_
  refine TO.nil (TQ.then_normal (T.ret (TQ.then_ret ?_)))
  refine TQ.value ?_ (res2 Tryz.results94 (Res.tmp (v := .string _) rfl) (Res.tmp (v := .int _ _) rfl)) _ (.inl rfl)
  rw [putInt, putErr, if_neg (by omega), if_neg (by omega)]; rfl
 try simp only [nrm] at h1
 refine TO.guard_true (s := 8) rfl rfl ?_
 refine rdx (rd_move (v := .int _ _) rfl) ?_
 refine TO.guard_true (s := 8) rfl rfl ?_
 refine rdx (rd_gtr rfl rfl) ?_
 refine rdx (rd_pick_false (v := .bool _) rfl rfl) ?_
 refine TO.nil (TQ.then_normal ?_)
 refine T.cond rfl (fun h2 => ?_) (fun h2 => ?_)
 ·try simp only [nrm] at h2
  refine T.seq (T.region ?_)
  refine rdx (rd_assign (v := .string _) rfl) ?_
  refine rdx (rd_assign (v := .int _ _) rfl) ?_
  refine TO.nil (TQ.then_normal (T.ret (TQ.then_ret ?_)))
  refine TQ.value ?_ (res2 Tryz.results94 (Res.tmp (v := .string _) rfl) (Res.tmp (v := .int _ _) rfl)) _ (.inl rfl)
  rw [putInt, putErr, if_neg (by omega), if_neg (by omega)]; rfl
 try simp only [nrm] at h2
 refine T.skip (TQ.then_normal (T.seq (T.region ?_)))
 refine rdx (rd_move (v := .int _ _) rfl) ?_
 refine TO.fn Tryz.enters102 (c_ref01_zigzag _ (by omega) (by omega)) rfl Reads0 ?_
 refine rdx (rd_assign (v := .int _ _) rfl) ?_
 refine TO.nil (TQ.then_normal (T.seq (T.region ?_)))
 refine rdx (rd_assign (v := .slice none 0 0) rfl) ?_
 refine TO.newrow 5 1 ?_
 refine TO.nil (TQ.then_normal (T.seq (T.block ?_)))
 refine T.loop6 [] (fun (A : Option Addr) (cap : Nat) (m : Nat) (l : Bytes) (z : Nat) (k : Nat) => [(4, .int .u64 (z : Nat)), (5, .slice A m cap)]) (fun (A : Option Addr) (cap : Nat) (m : Nat) (l : Bytes) (z : Nat) (k : Nat) => [row 5 1 A m cap (bytesC l)]) (fun (A : Option Addr) (cap : Nat) (m : Nat) (l : Bytes) (z : Nat) (k : Nat) => l ++ vintF (k + 1) z = vint (zig n) ∧ z < 128 ^ (k + 1) ∧ z < 9223372036854775807 ∧ m + k = 9) (fun (A : Option Addr) (cap : Nat) (m : Nat) (l : Bytes) (z : Nat) (k : Nat) => k) (none) (0) (0) ([]) (zig n) (9) (⟨rfl, by have := zig_lt (n := n) (by omega) (by omega); omega, zig_lt (by omega) (by omega), rfl⟩) (And.intro (rfl) (And.intro (rfl) (trivial))) (fun _ _ h => h) fun A cap m l z k g0 hx0 => ?_
 obtain ⟨hl, hz, hz2, hk⟩ := hx0
 refine T.seq (T.seq (T.region ?_))
 refine rdx (rd_move (v := .int _ _) rfl) ?_
 refine rdx (rd_geq rfl rfl) ?_
 refine TO.nil (TQ.then_normal ?_)
 refine T.cond_ft rfl (fun h4 => ?_) (fun h4 => ?_)
 ·try simp only [nrm] at h4
  refine T.exit (TQ.then_exit (TQ.then_exit (TQ.block_out (TQ.then_normal (T.seq (T.region ?_))))))
  refine rdx (rd_move (v := .slice _ _ _) rfl) ?_
  refine rdx (rd_move (v := .int _ _) rfl) ?_
  refine rdx (rd_convert Tryz.isome146 Tryz.under5 rfl (wrap_u8 _)) ?_
  refine TO.buildS (cs := [.int _ _]) Tryz.under62 Tryz.size5 Tryz.zero5 (Nat.le_of_ble_eq_true rfl) rfl (fun b9 => ?_)
  refine TO.front1 ?_
  refine TO.app Tryz.trow5 Tryz.under62 (.inl ⟨_, Tryz.under62⟩) rfl rfl (Src.own1 1 rfl rfl) rfl rfl (by omega) (fun A10 c11 hc12 => ?_)
  refine TO.row_eq (cs' := bytesC (l ++ [UInt8.ofNat z])) rfl (by rw [bytesC_append]; simp [bytesC, UInt8.toNat_ofNat']) ?_
  refine rdx (rd_row_str Tryz.under62 Tryz.under5 Tryz.under9 rfl (Has.own 0 rfl)) ?_
  refine rdx (rd_assign (v := .string _) rfl) ?_
  refine rdx (rd_assign (v := .int _ _) rfl) ?_
  refine TO.nil (TQ.then_normal (T.ret ?_))
  refine TQ.value ?_ (res2 Tryz.results94 (Res.tmp (v := .string _) rfl) (Res.tmp (v := .int _ _) rfl)) _ (.inl rfl)
  rw [putInt, putErr, if_pos (by omega), if_pos (by omega), ← hl, vintF_end (by omega)]
 try simp only [nrm] at h4
 refine T.skip (TQ.then_normal (T.block (T.seq (T.region ?_))))
 refine rdx (rd_move (v := .slice _ _ _) rfl) ?_
 refine rdx (rd_move (v := .int _ _) rfl) ?_
 refine rdx (rd_remn (m := 128) rfl rfl rfl (by decide)) ?_
 refine rdx (rd_add rfl rfl (wu64 (by omega) (by omega))) ?_
 refine rdx (rd_convert Tryz.isome146 Tryz.under5 rfl (wrap_u8 _)) ?_
 refine TO.buildS (cs := [.int _ _]) Tryz.under62 Tryz.size5 Tryz.zero5 (Nat.le_of_ble_eq_true rfl) rfl (fun b5 => ?_)
 refine TO.front1 ?_
 refine TO.app Tryz.trow5 Tryz.under62 (.inl ⟨_, Tryz.under62⟩) rfl rfl (Src.own1 1 rfl rfl) rfl rfl (by omega) (fun A6 c7 hc8 => ?_)
 refine TO.row_eq (cs' := bytesC (l ++ [UInt8.ofNat (z % 128 + 128)])) rfl (by rw [bytesC_append]; simp [bytesC, UInt8.toNat_ofNat']) ?_
 refine rdx (rd_assign (v := .slice _ _ _) rfl) ?_
 refine TO.nil (TQ.then_normal (T.region ?_))
 refine rdx (rd_move (v := .int _ _) rfl) ?_
 refine rdx (rd_quo64 (m := 128) rfl rfl rfl (by decide) (by omega)) ?_
 refine rdx (rd_assign (v := .int _ _) rfl) ?_
 refine TO.nil (TQ.block_normal ?_)
 refine TQ.againk (A6, c7, m + 1, l ++ [UInt8.ofNat (z % 128 + 128)], z / 128, k - 1) ?_ ?_ (And.intro (rfl) (And.intro (rfl) (trivial))) (trivial) (fun _ _ h => h.sel (js := [0]) (by decide))
 ·obtain ⟨j, hj, hj0⟩ := pow128_pos hz (by omega)
  obtain rfl : k = j := by omega
  have e : k = (k - 1) + 1 := by omega
  rw [vintF_go (by omega)] at hl
  refine ⟨?_, ?_, by dsimp only; omega, by dsimp only; omega⟩
  ·dsimp only
   rw [← e, ← hl]; simp
  ·dsimp only
   rw [← e]; exact pow128 hz
 ·obtain ⟨j, hj, hj0⟩ := pow128_pos hz (by omega)
  dsimp only; omega
end Go.Proofs
end
section
set_option linter.unusedVariables false
set_option linter.unusedSimpArgs false
set_option maxRecDepth 100000
set_option maxHeartbeats 800000
namespace Go.Proofs
open Go.TL
attribute [local irreducible] Go.TL.T Go.TL.TO Go.TL.TQ
theorem c_ref02_rotated (x : UInt32) (n : Nat) (h0 : 0 < n) (h : n < 32) : Cv Tryz.prog 103 #[.int .u32 x.toNat, .int .i64 (n : Nat)] [] (.int .u32 (rotr x n).toNat) := by
 refine Ctr.intro Tryz.func103 rfl Tryz.ntmps103 (Nat.le_of_ble_eq_true rfl) fun S0 w0 => ?_
 refine T.seq (T.region ?_)
 refine rdx (rd_assign (v := .int _ _) rfl) ?_
 refine TO.nil (TQ.then_normal (T.seq ?_))
 refine T.drawq Tryz.mixes 7 [(5, 0), (6, 1), (7, 2), (8, 3), (9, 4), (10, 5), (11, 6)] [0, 0, 3, 0, 0, 16, 56, 127, 255] (by kernel_rfl) ?_
 refine DQ.rd rfl rfl (fun _ => rd_move (v := .int _ _) rfl) ?_
 refine DQ.rd rfl rfl (fun _ => rd_move (v := .int _ _) rfl) ?_
 refine DQ.rd rfl rfl (fun _ => rd_shr32 (k := n) rfl rfl (rfl) (h)) ?_
 refine DQ.rd rfl rfl (fun _ => rd_move (v := .int _ _) rfl) ?_
 refine DQ.rd rfl rfl (fun _ => rd_move (v := .int _ _) rfl) ?_
 refine DQ.rd rfl rfl (fun _ => rd_sub rfl rfl (w64 (by omega) (by omega))) ?_
 refine DQ.rd rfl rfl (fun _ => rd_shl32 (k := (32 - n)) rfl rfl (by omega) (by omega)) ?_
 refine DQ.done rfl ?_
 refine rdx (rd_or32 rfl rfl) ?_
 refine rdx (rd_assign (v := .int _ _) rfl) ?_
 refine TO.nil (TQ.then_normal (T.ret ?_))
 refine TQ.value ?_ (res1 Tryz.results103 (Res.tmp (v := .int _ _) rfl)) _ (.inl rfl)
 rfl
theorem c_ref02_constants  : Ctr Tryz.prog 104 #[] [] [] (γ := Option Addr × Nat) (fun x => True) (fun x => .slice x.1 64 x.2) (fun x => [row 137 1 x.1 64 x.2 (shaK.flatMap eW)]) := by
 refine Ctr.intro Tryz.func104 rfl Tryz.ntmps104 (Nat.le_of_ble_eq_true rfl) fun S0 w0 => ?_
 refine T.seq (T.region ?_)
 refine rdx (rd_assign (v := .slice _ _ _) rfl) ?_
 refine TO.nil (TQ.then_normal (T.seq (T.region ?_)))
 refine TO.buildS (cs := [.int .u32 1116352408, .int .u32 1899447441, .int .u32 3049323471, .int .u32 3921009573, .int .u32 961987163, .int .u32 1508970993, .int .u32 2453635748, .int .u32 2870763221, .int .u32 3624381080, .int .u32 310598401, .int .u32 607225278, .int .u32 1426881987, .int .u32 1925078388, .int .u32 2162078206, .int .u32 2614888103, .int .u32 3248222580, .int .u32 3835390401, .int .u32 4022224774, .int .u32 264347078, .int .u32 604807628, .int .u32 770255983, .int .u32 1249150122, .int .u32 1555081692, .int .u32 1996064986, .int .u32 2554220882, .int .u32 2821834349, .int .u32 2952996808, .int .u32 3210313671, .int .u32 3336571891, .int .u32 3584528711, .int .u32 113926993, .int .u32 338241895, .int .u32 666307205, .int .u32 773529912, .int .u32 1294757372, .int .u32 1396182291, .int .u32 1695183700, .int .u32 1986661051, .int .u32 2177026350, .int .u32 2456956037, .int .u32 2730485921, .int .u32 2820302411, .int .u32 3259730800, .int .u32 3345764771, .int .u32 3516065817, .int .u32 3600352804, .int .u32 4094571909, .int .u32 275423344, .int .u32 430227734, .int .u32 506948616, .int .u32 659060556, .int .u32 883997877, .int .u32 958139571, .int .u32 1322822218, .int .u32 1537002063, .int .u32 1747873779, .int .u32 1955562222, .int .u32 2024104815, .int .u32 2227730452, .int .u32 2361852424, .int .u32 2428436474, .int .u32 2756734187, .int .u32 3204031479, .int .u32 3329325298]) Tryz.under138 Tryz.size137 Tryz.zero137 (Nat.le_of_ble_eq_true rfl) (by kernel_rfl) (fun b1 => ?_)
 refine rdx (rd_assign (v := .slice _ _ _) rfl) ?_
 refine TO.nil (TQ.then_normal (T.ret ?_))
 refine TQ.done ((some ⟨b1, 0, none⟩, 64)) (trivial) ?_ (fun _ _ => seps_lit 0 1 64 rfl rfl (by decide) (by kernel_rfl)) (res1 Tryz.results104 (Res.tmp (v := .slice _ _ _) rfl)) _ (.inl rfl)
 rfl
theorem c_ref02_extended (s : Bytes) (hs : s.length ≤ 1000000000000) : Ctr Tryz.prog 97 #[.string (str s)] [] [] (γ := Option Addr × Nat) (fun x => (pad s).length ≤ x.2) (fun x => .slice x.1 (pad s).length x.2) (fun x => [row 5 1 x.1 (pad s).length x.2 (bytesC (pad s))]) := by
 refine Ctr.intro Tryz.func97 rfl Tryz.ntmps97 (Nat.le_of_ble_eq_true rfl) fun S0 w0 => ?_
 refine T.seq (T.region ?_)
 refine rdx (rd_assign (v := .slice none 0 0) rfl) ?_
 refine TO.newrow 5 1 ?_
 refine TO.nil (TQ.then_normal (T.seq (T.region ?_)))
 refine rdx (rd_assign (v := .slice none 0 0) rfl) ?_
 refine TO.newrow 5 1 ?_
 refine TO.nil (TQ.then_normal (T.seq (T.seq (T.region ?_))))
 refine rdx (rd_assign (v := .int _ _) rfl) ?_
 refine TO.nil (TQ.then_normal (T.block ?_))
 refine T.loop3 [0] (fun (A : Option Addr) (cap : Nat) (k : Nat) => [(3, .slice A k cap), (4, .int .i64 (k : Nat))]) (fun (A : Option Addr) (cap : Nat) (k : Nat) => [row 5 1 A k cap (bytesC (s.take k))]) (fun (A : Option Addr) (cap : Nat) (k : Nat) => k ≤ s.length) (fun (A : Option Addr) (cap : Nat) (k : Nat) => s.length - k) (none) (0) (0) (Nat.zero_le _) (And.intro (rfl) (And.intro (rfl) (trivial))) (fun _ _ h => h) fun A cap k g0 hx0 => ?_
 refine T.seq (T.seq (T.region ?_))
 refine rdx (rd_move (v := .int _ _) rfl) ?_
 refine rdx (rd_move (v := .string _) rfl) ?_
 refine rdx (rd_lens' Tryz.under9 rfl) ?_
 refine rdx (rd_lss rfl rfl) ?_
 refine TO.nil (TQ.then_normal ?_)
 refine T.cond rfl (fun h3 => ?_) (fun h3 => ?_)
 ·try simp only [nrm] at h3
  refine T.skip (TQ.then_normal (T.seq (T.block (T.region ?_))))
  refine rdx (rd_move (v := .slice _ _ _) rfl) ?_
  refine rdx (rd_move (v := .string _) rfl) ?_
  refine rdx (rd_move (v := .int _ _) rfl) ?_
  refine rdx (rd_idxs Tryz.under9 rfl rfl rfl (by omega)) ?_
  refine TO.buildS (cs := [.int _ _]) Tryz.under62 Tryz.size5 Tryz.zero5 (Nat.le_of_ble_eq_true rfl) rfl (fun b4 => ?_)
  refine TO.front1 ?_
  refine TO.app Tryz.trow5 Tryz.under62 (.inl ⟨_, Tryz.under62⟩) rfl rfl (Src.own1 1 rfl rfl) rfl rfl (by omega) (fun A5 c6 hc7 => ?_)
  refine TO.row_eq (cs' := bytesC (s.take (k + 1))) rfl (by rw [← take_snoc (by omega), bytesC_append]; rfl) ?_
  refine rdx (rd_assign (v := .slice _ _ _) rfl) ?_
  refine TO.nil (TQ.block_normal (TQ.then_normal (T.region ?_)))
  refine rdx (rd_move (v := .int _ _) rfl) ?_
  refine rdx (rd_add rfl rfl (w64 (by omega) (by omega))) ?_
  refine rdx (rd_assign (v := .int _ _) rfl) ?_
  refine TO.nil ?_
  refine TQ.againk (A5, c6, k + 1) ?_ ?_ (And.intro (rfl) (And.intro (rfl) (trivial))) (And.intro (rfl) (trivial)) (fun _ _ h => h.sel (js := [0, 2]) (by decide))
  ·first | omega | (dsimp only; omega)
  ·first | omega | (dsimp only; omega)
 try simp only [nrm] at h3
 refine T.exit (TQ.then_exit (TQ.then_exit (TQ.block_out (TQ.then_normal (T.seq (T.region ?_))))))
 refine rdx (rd_move (v := .slice _ _ _) rfl) ?_
 refine TO.buildS (cs := [.int _ _]) Tryz.under62 Tryz.size5 Tryz.zero5 (Nat.le_of_ble_eq_true rfl) rfl (fun b8 => ?_)
 refine TO.front1 ?_
 refine TO.app Tryz.trow5 Tryz.under62 (.inl ⟨_, Tryz.under62⟩) rfl rfl (Src.own1 1 rfl rfl) rfl rfl (by omega) (fun A9 c10 hc11 => ?_)
 refine TO.row_eq (cs' := bytesC (s ++ [128] ++ List.replicate 0 0)) rfl (by rw [List.take_of_length_le (by omega)]; simp [bytesC_append]; rfl) ?_
 refine rdx (rd_assign (v := .slice _ _ _) rfl) ?_
 refine TO.nil (TQ.then_normal (T.seq (T.block ?_)))
 refine T.loop4 [0] (fun (A : Option Addr) (cap : Nat) (m : Nat) (j : Nat) => [(3, .slice A m cap)]) (fun (A : Option Addr) (cap : Nat) (m : Nat) (j : Nat) => [row 5 1 A m cap (bytesC (s ++ [128] ++ List.replicate j 0))]) (fun (A : Option Addr) (cap : Nat) (m : Nat) (j : Nat) => m = s.length + 1 + j ∧ j ≤ zeros s.length ∧ m ≤ cap) (fun (A : Option Addr) (cap : Nat) (m : Nat) (j : Nat) => zeros s.length - j) (A9) (c10) (k + 1) (0) (⟨by omega, Nat.zero_le _, by omega⟩) (And.intro (rfl) (trivial)) (fun _ _ h => h) fun A cap m j g1 hx1 => ?_
 obtain ⟨hm, hj, hmc⟩ := hx1
 have hz63 : zeros s.length ≤ 63 := by simp only [zeros]; omega
 refine T.seq (T.seq (T.region ?_))
 refine rdx (rd_move (v := .slice _ _ _) rfl) ?_
 refine rdx (rd_lensl Tryz.under62 rfl) ?_
 refine rdx (rd_remn (m := 64) rfl rfl rfl (by decide)) ?_
 refine rdx (rd_neq rfl rfl) ?_
 refine TO.nil (TQ.then_normal ?_)
 refine T.cond rfl (fun h12 => ?_) (fun h12 => ?_)
 ·try simp only [nrm] at h12
  refine T.skip (TQ.then_normal (T.block (T.region ?_)))
  refine rdx (rd_move (v := .slice _ _ _) rfl) ?_
  refine TO.buildS (cs := [.int _ _]) Tryz.under62 Tryz.size5 Tryz.zero5 (Nat.le_of_ble_eq_true rfl) rfl (fun b13 => ?_)
  refine TO.front1 ?_
  refine TO.app Tryz.trow5 Tryz.under62 (.inl ⟨_, Tryz.under62⟩) rfl rfl (Src.own1 1 rfl rfl) rfl rfl (by omega) (fun A14 c15 hc16 => ?_)
  refine TO.row_eq (cs' := bytesC (s ++ [128] ++ List.replicate (j + 1) 0)) rfl (by rw [List.replicate_succ', ← List.append_assoc]; exact (bytesC_append (s ++ [128] ++ List.replicate j 0) [0]).symm) ?_
  refine rdx (rd_assign (v := .slice _ _ _) rfl) ?_
  refine TO.nil (TQ.block_normal ?_)
  refine TQ.againk (A14, c15, m + 1, j + 1) ?_ ?_ (And.intro (rfl) (trivial)) (And.intro (rfl) (trivial)) (fun _ _ h => h.sel (js := [0, 2, 3]) (by decide))
  ·refine ⟨?_, ?_, ?_⟩ <;> dsimp only <;> (try simp only [zeros] at *) <;> omega
  ·(try simp only [zeros] at *); omega
 try simp only [nrm] at h12
 refine T.exit (TQ.then_exit (TQ.then_exit (TQ.block_out (TQ.then_normal (T.seq (T.seq (T.region ?_)))))))
 refine rdx (rd_assign (v := .int _ _) rfl) ?_
 refine TO.nil (TQ.then_normal (T.block ?_))
 refine T.loop5 [0] (fun (A : Option Addr) (cap : Nat) (m : Nat) (l : Bytes) (i : Nat) => [(3, .slice A m cap), (5, .int .i64 ((i : Int) - 1))]) (fun (A : Option Addr) (cap : Nat) (m : Nat) (l : Bytes) (i : Nat) => [row 5 1 A m cap (bytesC l)]) (fun (A : Option Addr) (cap : Nat) (m : Nat) (l : Bytes) (i : Nat) => l ++ len8 s.length i = pad s ∧ m = l.length ∧ i ≤ 8 ∧ m ≤ cap) (fun (A : Option Addr) (cap : Nat) (m : Nat) (l : Bytes) (i : Nat) => i) (A) (cap) (m) (s ++ [128] ++ List.replicate j 0) (8) (⟨by rw [pad, show zeros s.length = j by simp only [zeros] at *; omega], by simp; omega, by omega, by omega⟩) (And.intro (rfl) (And.intro (rfl) (trivial))) (fun _ _ h => h) fun A cap m l i g2 hx2 => ?_
 obtain ⟨hl, hml, hi, hmc⟩ := hx2
 have hm2 : m ≤ s.length + 72 := by
  have := congrArg List.length hl
  simp only [pad, List.length_append, len8_len, List.length_replicate, List.length_cons, List.length_nil] at this
  omega
 refine T.seq (T.seq (T.region ?_))
 refine rdx (rd_move (v := .int _ _) rfl) ?_
 refine rdx (rd_geq rfl rfl) ?_
 refine TO.nil (TQ.then_normal ?_)
 refine T.cond_ft rfl (fun h17 => ?_) (fun h17 => ?_)
 ·try simp only [nrm] at h17
  refine T.exit (TQ.then_exit (TQ.then_exit (TQ.block_out (TQ.then_normal (T.seq (T.region ?_))))))
  refine rdx (rd_move (v := .slice _ _ _) rfl) ?_
  refine rdx (rd_assign (v := .slice _ _ _) rfl) ?_
  refine TO.nil (TQ.then_normal (T.ret ?_))
  refine TQ.done ((A, cap)) (by rw [← hl, show i = 0 by omega]; simp only [len8, List.append_nil]; omega) ?_ (fun _ _ => seps_row 0 rfl (by rw [← hl, show i = 0 by omega]; simpa [len8] using hml) (by rw [← hl, show i = 0 by omega]; simp [len8])) (res1 Tryz.results97 (Res.tmp (v := .slice _ _ _) rfl)) _ (.inl rfl)
  rw [← hl, show i = 0 by omega]; simp [len8, hml]
 try simp only [nrm] at h17
 refine T.skip (TQ.then_normal (T.seq (T.block (T.region ?_))))
 refine rdx (rd_move (v := .slice _ _ _) rfl) ?_
 refine rdx (rd_move (v := .string _) rfl) ?_
 refine rdx (rd_lens' Tryz.under9 rfl) ?_
 refine rdx (rd_mul rfl rfl (w64 (by omega) (by omega))) ?_
 refine rdx (rd_move (v := .int _ _) rfl) ?_
 refine rdx (rd_mul rfl rfl (w64 (by omega) (by omega))) ?_
 refine rdx (rd_shr rfl rfl (by omega) (fdiv_pow (a := 8 * s.length) (q := 8 * (i - 1)) (by omega) (by omega))) ?_
 refine rdx (rd_convert Tryz.isome3 Tryz.under5 rfl (wrap_u8 _)) ?_
 refine TO.buildS (cs := [.int _ _]) Tryz.under62 Tryz.size5 Tryz.zero5 (Nat.le_of_ble_eq_true rfl) rfl (fun b18 => ?_)
 refine TO.front1 ?_
 refine TO.app Tryz.trow5 Tryz.under62 (.inl ⟨_, Tryz.under62⟩) rfl rfl (Src.own1 1 rfl rfl) rfl rfl (by omega) (fun A19 c20 hc21 => ?_)
 refine TO.row_eq (cs' := bytesC (l ++ [UInt8.ofNat (8 * s.length / 2 ^ (8 * (i - 1)))])) rfl (by rw [bytesC_append]; simp [bytesC, UInt8.toNat_ofNat']) ?_
 refine rdx (rd_assign (v := .slice _ _ _) rfl) ?_
 refine TO.nil (TQ.block_normal (TQ.then_normal (T.region ?_)))
 refine rdx (rd_move (v := .int _ _) rfl) ?_
 refine rdx (rd_sub rfl rfl (w64 (by omega) (by omega))) ?_
 refine rdx (rd_assign (v := .int _ _) rfl) ?_
 refine TO.nil ?_
 refine TQ.againk (A19, c20, m + 1, l ++ [UInt8.ofNat (8 * s.length / 2 ^ (8 * (i - 1)))], i - 1) ?_ ?_ (And.intro (rfl) (And.intro (congrArg (Value.int .i64) (by first | omega | (dsimp only; omega))) (trivial))) (And.intro (rfl) (trivial)) (fun _ _ h => h.sel (js := [0, 2, 3]) (by decide))
 ·refine ⟨?_, by simp; omega, by dsimp only; omega, by dsimp only; omega⟩
  rw [← hl]
  obtain ⟨q, rfl⟩ : ∃ q, i = q + 1 := ⟨i - 1, by omega⟩
  simp [len8_succ]
 ·first | omega | (dsimp only; omega)
end Go.Proofs
end
section
set_option linter.unusedVariables false
set_option linter.unusedSimpArgs false
set_option maxRecDepth 100000
set_option maxHeartbeats 800000
namespace Go.Proofs
open Go.TL
attribute [local irreducible] Go.TL.T Go.TL.TO Go.TL.TQ
theorem c_ref02_block (A : Option Addr) (cap n : Nat) (l : List UInt32) (hn : n = l.length) (B : Option Addr) (capb m : Nat) (b : List UInt8) (hm : m = b.length) (h : H8) (hh : l = h.l) (hb : b.length = 64) : Ctr Tryz.prog 98 #[.slice A n cap, .slice B m capb] [slc eW 1 A l, slc eByte 1 B b] [] (γ := Option Addr × Nat) (fun x => True) (fun x => .slice x.1 8 x.2) (fun x => [row 137 1 x.1 8 x.2 ((shaBlock h b).l.flatMap eW)]) := by
 subst hn hm hh
 have hl8 : h.l.length = 8 := rfl
 refine Ctr.intro Tryz.func98 rfl Tryz.ntmps98 (Nat.le_of_ble_eq_true rfl) fun S0 w0 => ?_
 refine T.seq (T.region ?_)
 refine rdx (rd_assign (v := .slice none 0 0) rfl) ?_
 refine TO.newrow 137 1 ?_
 refine TO.nil (TQ.then_normal (T.seq (T.region ?_)))
 refine rdx (rd_assign (v := .slice none 0 0) rfl) ?_
 refine TO.newrow 137 1 ?_
 refine TO.nil (TQ.then_normal (T.seq (T.seq (T.region ?_))))
 refine rdx (rd_assign (v := .int _ _) rfl) ?_
 refine TO.nil (TQ.then_normal (T.block ?_))
 refine T.loop3 [0, 1] (fun (A1 : Option Addr) (cap1 : Nat) (k : Nat) => [(5, .slice A1 k cap1), (6, .int .i64 (k : Nat))]) (fun (A1 : Option Addr) (cap1 : Nat) (k : Nat) => [row 137 1 A1 k cap1 ((w16 b k).flatMap eW)]) (fun (A1 : Option Addr) (cap1 : Nat) (k : Nat) => k ≤ 16) (fun (A1 : Option Addr) (cap1 : Nat) (k : Nat) => 16 - k) (none) (0) (0) (Nat.zero_le _) (And.intro (rfl) (And.intro (rfl) (trivial))) (fun _ _ h => h) fun A1 cap1 k g0 hx0 => ?_
 refine T.seq (T.seq (T.region ?_))
 refine rdx (rd_move (v := .int _ _) rfl) ?_
 refine rdx (rd_lss rfl rfl) ?_
 refine TO.nil (TQ.then_normal ?_)
 refine T.cond rfl (fun h3 => ?_) (fun h3 => ?_)
 ·try simp only [nrm] at h3
  refine T.skip (TQ.then_normal (T.seq (T.block ?_)))
  refine T.drawg Tryz.mixes 35 [(23, 0), (24, 1), (25, 2), (26, 3), (27, 4), (28, 5), (29, 6), (30, 7), (31, 8), (32, 9), (33, 10), (34, 11), (35, 12), (36, 13), (37, 14), (38, 15), (39, 16), (40, 17), (41, 18), (42, 19), (43, 20), (44, 21), (45, 22), (46, 23), (47, 24), (48, 25), (49, 26), (50, 27), (51, 28), (52, 29), (53, 30), (54, 31), (55, 32), (56, 33), (57, 34)] [0, 0, 0, 4, 14, 30, 62, 126, 0, 0, 512, 1536, 3840, 7936, 16128, 32512, 65534, 0, 0, 262144, 786432, 1966080, 4063232, 8257536, 16646144, 33554430, 0, 0, 134217728, 402653184, 1006632960, 2080374784, 4227858432, 8589934590, 17179869182, 34359738367, 68719476735] [34] (by kernel_rfl) ?_
  refine DG.rd rfl rfl rfl (fun _ _ => rd_move (v := .slice _ _ _) rfl) ?_
  refine DG.rd rfl rfl rfl (fun _ _ => rd_move (v := .slice _ _ _) rfl) ?_
  refine DG.rd rfl rfl rfl (fun _ _ => rd_move (v := .int _ _) rfl) ?_
  refine DG.rd rfl rfl rfl (fun _ _ => rd_mul rfl rfl (w64 (by first | omega | ((try simp only [H8.len, shaK_len, sched_len, w16_len, List.length_take] at *); omega)) (by first | omega | ((try simp only [H8.len, shaK_len, sched_len, w16_len, List.length_take] at *); omega)))) ?_
  refine DG.rd rfl rfl rfl (fun _ _ => rd_ix (k := (4 * k)) Tryz.under62 Tryz.size5 rfl rfl (Has.arg 1 rfl) (by omega) (by first | omega | ((try simp only [H8.len, shaK_len, sched_len, w16_len, List.length_take] at *); omega)) (by omega)) ?_
  refine DG.rd rfl rfl rfl (fun _ _ => rd_el (v := .int _ _) (4 * k) 0 Tryz.one5 rfl (Has.arg 1 rfl) rfl (by first | omega | ((try simp only [H8.len, shaK_len, sched_len, w16_len, List.length_take] at *); omega)) (Nat.le_of_ble_eq_true rfl) rfl) ?_
  refine DG.rd rfl rfl rfl (fun _ _ => rd_conv8_32 Tryz.isome5 Tryz.under137 rfl) ?_
  refine DG.rd rfl rfl rfl (fun _ _ => rd_shl32 (k := 24) rfl rfl (rfl) (by decide)) ?_
  refine DG.rd rfl rfl rfl (fun _ _ => rd_move (v := .slice _ _ _) rfl) ?_
  refine DG.rd rfl rfl rfl (fun _ _ => rd_move (v := .int _ _) rfl) ?_
  refine DG.rd rfl rfl rfl (fun _ _ => rd_mul rfl rfl (w64 (by first | omega | ((try simp only [H8.len, shaK_len, sched_len, w16_len, List.length_take] at *); omega)) (by first | omega | ((try simp only [H8.len, shaK_len, sched_len, w16_len, List.length_take] at *); omega)))) ?_
  refine DG.rd rfl rfl rfl (fun _ _ => rd_add rfl rfl (w64 (by first | omega | ((try simp only [H8.len, shaK_len, sched_len, w16_len, List.length_take] at *); omega)) (by first | omega | ((try simp only [H8.len, shaK_len, sched_len, w16_len, List.length_take] at *); omega)))) ?_
  refine DG.rd rfl rfl rfl (fun _ _ => rd_ix (k := (4 * k + 1)) Tryz.under62 Tryz.size5 rfl rfl (Has.arg 1 rfl) (by omega) (by first | omega | ((try simp only [H8.len, shaK_len, sched_len, w16_len, List.length_take] at *); omega)) (by omega)) ?_
  refine DG.rd rfl rfl rfl (fun _ _ => rd_el (v := .int _ _) (4 * k + 1) 0 Tryz.one5 rfl (Has.arg 1 rfl) rfl (by first | omega | ((try simp only [H8.len, shaK_len, sched_len, w16_len, List.length_take] at *); omega)) (Nat.le_of_ble_eq_true rfl) rfl) ?_
  refine DG.rd rfl rfl rfl (fun _ _ => rd_conv8_32 Tryz.isome5 Tryz.under137 rfl) ?_
  refine DG.rd rfl rfl rfl (fun _ _ => rd_shl32 (k := 16) rfl rfl (rfl) (by decide)) ?_
  refine DG.rd rfl rfl rfl (fun _ _ => rd_or32 rfl rfl) ?_
  refine DG.rd rfl rfl rfl (fun _ _ => rd_move (v := .slice _ _ _) rfl) ?_
  refine DG.rd rfl rfl rfl (fun _ _ => rd_move (v := .int _ _) rfl) ?_
  refine DG.rd rfl rfl rfl (fun _ _ => rd_mul rfl rfl (w64 (by first | omega | ((try simp only [H8.len, shaK_len, sched_len, w16_len, List.length_take] at *); omega)) (by first | omega | ((try simp only [H8.len, shaK_len, sched_len, w16_len, List.length_take] at *); omega)))) ?_
  refine DG.rd rfl rfl rfl (fun _ _ => rd_add rfl rfl (w64 (by first | omega | ((try simp only [H8.len, shaK_len, sched_len, w16_len, List.length_take] at *); omega)) (by first | omega | ((try simp only [H8.len, shaK_len, sched_len, w16_len, List.length_take] at *); omega)))) ?_
  refine DG.rd rfl rfl rfl (fun _ _ => rd_ix (k := (4 * k + 2)) Tryz.under62 Tryz.size5 rfl rfl (Has.arg 1 rfl) (by omega) (by first | omega | ((try simp only [H8.len, shaK_len, sched_len, w16_len, List.length_take] at *); omega)) (by omega)) ?_
  refine DG.rd rfl rfl rfl (fun _ _ => rd_el (v := .int _ _) (4 * k + 2) 0 Tryz.one5 rfl (Has.arg 1 rfl) rfl (by first | omega | ((try simp only [H8.len, shaK_len, sched_len, w16_len, List.length_take] at *); omega)) (Nat.le_of_ble_eq_true rfl) rfl) ?_
  refine DG.rd rfl rfl rfl (fun _ _ => rd_conv8_32 Tryz.isome5 Tryz.under137 rfl) ?_
  refine DG.rd rfl rfl rfl (fun _ _ => rd_shl32 (k := 8) rfl rfl (rfl) (by decide)) ?_
  refine DG.rd rfl rfl rfl (fun _ _ => rd_or32 rfl rfl) ?_
  refine DG.rd rfl rfl rfl (fun _ _ => rd_move (v := .slice _ _ _) rfl) ?_
  refine DG.rd rfl rfl rfl (fun _ _ => rd_move (v := .int _ _) rfl) ?_
  refine DG.rd rfl rfl rfl (fun _ _ => rd_mul rfl rfl (w64 (by first | omega | ((try simp only [H8.len, shaK_len, sched_len, w16_len, List.length_take] at *); omega)) (by first | omega | ((try simp only [H8.len, shaK_len, sched_len, w16_len, List.length_take] at *); omega)))) ?_
  refine DG.rd rfl rfl rfl (fun _ _ => rd_add rfl rfl (w64 (by first | omega | ((try simp only [H8.len, shaK_len, sched_len, w16_len, List.length_take] at *); omega)) (by first | omega | ((try simp only [H8.len, shaK_len, sched_len, w16_len, List.length_take] at *); omega)))) ?_
  refine DG.rd rfl rfl rfl (fun _ _ => rd_ix (k := (4 * k + 3)) Tryz.under62 Tryz.size5 rfl rfl (Has.arg 1 rfl) (by omega) (by first | omega | ((try simp only [H8.len, shaK_len, sched_len, w16_len, List.length_take] at *); omega)) (by omega)) ?_
  refine DG.rd rfl rfl rfl (fun _ _ => rd_el (v := .int _ _) (4 * k + 3) 0 Tryz.one5 rfl (Has.arg 1 rfl) rfl (by first | omega | ((try simp only [H8.len, shaK_len, sched_len, w16_len, List.length_take] at *); omega)) (Nat.le_of_ble_eq_true rfl) rfl) ?_
  refine DG.rd rfl rfl rfl (fun _ _ => rd_conv8_32 Tryz.isome5 Tryz.under137 rfl) ?_
  refine DG.rd rfl rfl rfl (fun _ _ => rd_or32 rfl rfl) ?_
  refine DG.buildS (cs := [.int _ _]) rfl rfl Tryz.under138 Tryz.size137 Tryz.zero137 (Nat.le_of_ble_eq_true rfl) (fun _ _ => rfl) ?_
  refine DG.done rfl (by decide) rfl (fun gh5 => ?_)
  refine TO.front1 ?_
  refine TO.app Tryz.trow137 Tryz.under138 (.inl ⟨_, Tryz.under138⟩) rfl rfl (Src.own1 1 rfl rfl) rfl rfl (by first | omega | (have := H8.len h; omega)) (fun A6 c7 hc8 => ?_)
  refine TO.row_eq (cs' := (w16 b (k + 1)).flatMap eW) rfl (by rw [w16_succ, List.flatMap_append, wordAt_get (by omega)]; rfl) ?_
  refine rdx (rd_assign (v := .slice _ _ _) rfl) ?_
  refine TO.nil (TQ.block_normal (TQ.then_normal (T.region ?_)))
  refine rdx (rd_move (v := .int _ _) rfl) ?_
  refine rdx (rd_add rfl rfl (w64 (by first | omega | ((try simp only [H8.len, shaK_len, sched_len, w16_len, List.length_take] at *); omega)) (by first | omega | ((try simp only [H8.len, shaK_len, sched_len, w16_len, List.length_take] at *); omega)))) ?_
  refine rdx (rd_assign (v := .int _ _) rfl) ?_
  refine TO.nil ?_
  refine TQ.againk (A6, c7, k + 1) ?_ ?_ (And.intro (rfl) (And.intro (rfl) (trivial))) (And.intro (rfl) (And.intro (rfl) (trivial))) (fun _ _ h => h.sel (js := [0, 2]) (by decide))
  ·first | omega | (dsimp only; omega)
  ·first | omega | (dsimp only; omega)
 try simp only [nrm] at h3
 refine T.exit (TQ.then_exit (TQ.then_exit (TQ.block_out (TQ.then_normal (T.seq (T.seq (T.region ?_)))))))
 refine rdx (rd_assign (v := .int _ _) rfl) ?_
 refine TO.nil (TQ.then_normal (T.block ?_))
 obtain rfl : k = 16 := by omega
 refine T.loop4 [0] (fun (A1 : Option Addr) (cap1 : Nat) (k : Nat) (wd : List UInt32) => [(5, .slice A1 k cap1), (7, .int .i64 (k : Nat))]) (fun (A1 : Option Addr) (cap1 : Nat) (k : Nat) (wd : List UInt32) => [row 137 1 A1 k cap1 (wd.flatMap eW)]) (fun (A1 : Option Addr) (cap1 : Nat) (k : Nat) (wd : List UInt32) => wd.length = k ∧ k ≤ 64 ∧ wext (64 - k) wd = sched b ∧ 16 ≤ k) (fun (A1 : Option Addr) (cap1 : Nat) (k : Nat) (wd : List UInt32) => 64 - k) (A1) (cap1) (16) (w16 b 16) (⟨w16_len _ _, by decide, rfl, by decide⟩) (And.intro (rfl) (And.intro (rfl) (trivial))) (fun _ _ h => h) fun A1 cap1 k wd g1 hx1 => ?_
 obtain ⟨hwl, hk, hw, hk16⟩ := hx1
 refine T.seq (T.seq (T.region ?_))
 refine rdx (rd_move (v := .int _ _) rfl) ?_
 refine rdx (rd_lss rfl rfl) ?_
 refine TO.nil (TQ.then_normal ?_)
 refine T.cond rfl (fun h9 => ?_) (fun h9 => ?_)
 ·try simp only [nrm] at h9
  refine T.skip (TQ.then_normal (T.seq (T.block (T.seq ?_))))
  refine T.drawq Tryz.mixes 19 [(63, 0), (64, 1), (65, 2), (66, 3), (67, 4), (68, 5), (69, 6), (70, 7), (71, 8), (72, 9), (73, 10), (74, 11), (75, 12), (76, 13), (77, 14), (78, 15), (79, 16), (80, 17), (81, 18)] [0, 0, 2, 7, 15, 31, 0, 0, 128, 448, 960, 2047, 4095, 0, 0, 16384, 57344, 122880, 253952, 524287, 1048575] (by kernel_rfl) ?_
  refine DQ.rd rfl rfl (fun _ => rd_move (v := .slice _ _ _) rfl) ?_
  refine DQ.rd rfl rfl (fun _ => rd_move (v := .int _ _) rfl) ?_
  refine DQ.rd rfl rfl (fun _ => rd_sub rfl rfl (w64 (by first | omega | ((try simp only [H8.len, shaK_len, sched_len, w16_len, List.length_take] at *); omega)) (by first | omega | ((try simp only [H8.len, shaK_len, sched_len, w16_len, List.length_take] at *); omega)))) ?_
  refine DQ.rd rfl rfl (fun _ => rd_ix (k := (k - 15)) Tryz.under138 Tryz.size137 rfl rfl (row_slc' (e := eW) (xs := wd) (fun _ => rfl) (by first | rfl | omega | simp) (rfl) (Has.own 0 rfl)) (by omega) (by first | omega | ((try simp only [H8.len, shaK_len, sched_len, w16_len, List.length_take] at *); omega)) (by omega)) ?_
  refine DQ.rd rfl rfl (fun _ => rd_el (v := .int _ _) (k - 15) 0 Tryz.one137 rfl (row_slc' (e := eW) (xs := wd) (fun _ => rfl) (by first | rfl | omega | simp) (rfl) (Has.own 0 rfl)) rfl (by first | omega | ((try simp only [H8.len, shaK_len, sched_len, w16_len, List.length_take] at *); omega)) (Nat.le_of_ble_eq_true rfl) rfl) ?_
  refine DQ.fn rfl Tryz.enters103 (c_ref02_rotated _ 7 (by decide) (by decide)) (fun _ => rfl) Reads0 ?_
  refine DQ.rd rfl rfl (fun _ => rd_move (v := .slice _ _ _) rfl) ?_
  refine DQ.rd rfl rfl (fun _ => rd_move (v := .int _ _) rfl) ?_
  refine DQ.rd rfl rfl (fun _ => rd_sub rfl rfl (w64 (by first | omega | ((try simp only [H8.len, shaK_len, sched_len, w16_len, List.length_take] at *); omega)) (by first | omega | ((try simp only [H8.len, shaK_len, sched_len, w16_len, List.length_take] at *); omega)))) ?_
  refine DQ.rd rfl rfl (fun _ => rd_ix (k := (k - 15)) Tryz.under138 Tryz.size137 rfl rfl (row_slc' (e := eW) (xs := wd) (fun _ => rfl) (by first | rfl | omega | simp) (rfl) (Has.own 0 rfl)) (by omega) (by first | omega | ((try simp only [H8.len, shaK_len, sched_len, w16_len, List.length_take] at *); omega)) (by omega)) ?_
  refine DQ.rd rfl rfl (fun _ => rd_el (v := .int _ _) (k - 15) 0 Tryz.one137 rfl (row_slc' (e := eW) (xs := wd) (fun _ => rfl) (by first | rfl | omega | simp) (rfl) (Has.own 0 rfl)) rfl (by first | omega | ((try simp only [H8.len, shaK_len, sched_len, w16_len, List.length_take] at *); omega)) (Nat.le_of_ble_eq_true rfl) rfl) ?_
  refine DQ.fn rfl Tryz.enters103 (c_ref02_rotated _ 18 (by decide) (by decide)) (fun _ => rfl) Reads0 ?_
  refine DQ.rd rfl rfl (fun _ => rd_xor32 rfl rfl) ?_
  refine DQ.rd rfl rfl (fun _ => rd_move (v := .slice _ _ _) rfl) ?_
  refine DQ.rd rfl rfl (fun _ => rd_move (v := .int _ _) rfl) ?_
  refine DQ.rd rfl rfl (fun _ => rd_sub rfl rfl (w64 (by first | omega | ((try simp only [H8.len, shaK_len, sched_len, w16_len, List.length_take] at *); omega)) (by first | omega | ((try simp only [H8.len, shaK_len, sched_len, w16_len, List.length_take] at *); omega)))) ?_
  refine DQ.rd rfl rfl (fun _ => rd_ix (k := (k - 15)) Tryz.under138 Tryz.size137 rfl rfl (row_slc' (e := eW) (xs := wd) (fun _ => rfl) (by first | rfl | omega | simp) (rfl) (Has.own 0 rfl)) (by omega) (by first | omega | ((try simp only [H8.len, shaK_len, sched_len, w16_len, List.length_take] at *); omega)) (by omega)) ?_
  refine DQ.rd rfl rfl (fun _ => rd_el (v := .int _ _) (k - 15) 0 Tryz.one137 rfl (row_slc' (e := eW) (xs := wd) (fun _ => rfl) (by first | rfl | omega | simp) (rfl) (Has.own 0 rfl)) rfl (by first | omega | ((try simp only [H8.len, shaK_len, sched_len, w16_len, List.length_take] at *); omega)) (Nat.le_of_ble_eq_true rfl) rfl) ?_
  refine DQ.rd rfl rfl (fun _ => rd_shr32 (k := 3) rfl rfl (rfl) (by decide)) ?_
  refine DQ.done rfl ?_
  refine rdx (rd_xor32 rfl rfl) ?_
  refine rdx (rd_assign (v := .int _ _) rfl) ?_
  refine TO.nil (TQ.then_normal (T.seq ?_))
  refine T.drawq Tryz.mixes 19 [(83, 0), (84, 1), (85, 2), (86, 3), (87, 4), (88, 5), (89, 6), (90, 7), (91, 8), (92, 9), (93, 10), (94, 11), (95, 12), (96, 13), (97, 14), (98, 15), (99, 16), (100, 17), (101, 18)] [0, 0, 2, 7, 15, 31, 0, 0, 128, 448, 960, 2047, 4095, 0, 0, 16384, 57344, 122880, 253952, 524287, 1048575] (by kernel_rfl) ?_
  refine DQ.rd rfl rfl (fun _ => rd_move (v := .slice _ _ _) rfl) ?_
  refine DQ.rd rfl rfl (fun _ => rd_move (v := .int _ _) rfl) ?_
  refine DQ.rd rfl rfl (fun _ => rd_sub rfl rfl (w64 (by first | omega | ((try simp only [H8.len, shaK_len, sched_len, w16_len, List.length_take] at *); omega)) (by first | omega | ((try simp only [H8.len, shaK_len, sched_len, w16_len, List.length_take] at *); omega)))) ?_
  refine DQ.rd rfl rfl (fun _ => rd_ix (k := (k - 2)) Tryz.under138 Tryz.size137 rfl rfl (row_slc' (e := eW) (xs := wd) (fun _ => rfl) (by first | rfl | omega | simp) (rfl) (Has.own 0 rfl)) (by omega) (by first | omega | ((try simp only [H8.len, shaK_len, sched_len, w16_len, List.length_take] at *); omega)) (by omega)) ?_
  refine DQ.rd rfl rfl (fun _ => rd_el (v := .int _ _) (k - 2) 0 Tryz.one137 rfl (row_slc' (e := eW) (xs := wd) (fun _ => rfl) (by first | rfl | omega | simp) (rfl) (Has.own 0 rfl)) rfl (by first | omega | ((try simp only [H8.len, shaK_len, sched_len, w16_len, List.length_take] at *); omega)) (Nat.le_of_ble_eq_true rfl) rfl) ?_
  refine DQ.fn rfl Tryz.enters103 (c_ref02_rotated _ 17 (by decide) (by decide)) (fun _ => rfl) Reads0 ?_
  refine DQ.rd rfl rfl (fun _ => rd_move (v := .slice _ _ _) rfl) ?_
  refine DQ.rd rfl rfl (fun _ => rd_move (v := .int _ _) rfl) ?_
  refine DQ.rd rfl rfl (fun _ => rd_sub rfl rfl (w64 (by first | omega | ((try simp only [H8.len, shaK_len, sched_len, w16_len, List.length_take] at *); omega)) (by first | omega | ((try simp only [H8.len, shaK_len, sched_len, w16_len, List.length_take] at *); omega)))) ?_
  refine DQ.rd rfl rfl (fun _ => rd_ix (k := (k - 2)) Tryz.under138 Tryz.size137 rfl rfl (row_slc' (e := eW) (xs := wd) (fun _ => rfl) (by first | rfl | omega | simp) (rfl) (Has.own 0 rfl)) (by omega) (by first | omega | ((try simp only [H8.len, shaK_len, sched_len, w16_len, List.length_take] at *); omega)) (by omega)) ?_
  refine DQ.rd rfl rfl (fun _ => rd_el (v := .int _ _) (k - 2) 0 Tryz.one137 rfl (row_slc' (e := eW) (xs := wd) (fun _ => rfl) (by first | rfl | omega | simp) (rfl) (Has.own 0 rfl)) rfl (by first | omega | ((try simp only [H8.len, shaK_len, sched_len, w16_len, List.length_take] at *); omega)) (Nat.le_of_ble_eq_true rfl) rfl) ?_
  refine DQ.fn rfl Tryz.enters103 (c_ref02_rotated _ 19 (by decide) (by decide)) (fun _ => rfl) Reads0 ?_
  refine DQ.rd rfl rfl (fun _ => rd_xor32 rfl rfl) ?_
  refine DQ.rd rfl rfl (fun _ => rd_move (v := .slice _ _ _) rfl) ?_
  refine DQ.rd rfl rfl (fun _ => rd_move (v := .int _ _) rfl) ?_
  refine DQ.rd rfl rfl (fun _ => rd_sub rfl rfl (w64 (by first | omega | ((try simp only [H8.len, shaK_len, sched_len, w16_len, List.length_take] at *); omega)) (by first | omega | ((try simp only [H8.len, shaK_len, sched_len, w16_len, List.length_take] at *); omega)))) ?_
  refine DQ.rd rfl rfl (fun _ => rd_ix (k := (k - 2)) Tryz.under138 Tryz.size137 rfl rfl (row_slc' (e := eW) (xs := wd) (fun _ => rfl) (by first | rfl | omega | simp) (rfl) (Has.own 0 rfl)) (by omega) (by first | omega | ((try simp only [H8.len, shaK_len, sched_len, w16_len, List.length_take] at *); omega)) (by omega)) ?_
  refine DQ.rd rfl rfl (fun _ => rd_el (v := .int _ _) (k - 2) 0 Tryz.one137 rfl (row_slc' (e := eW) (xs := wd) (fun _ => rfl) (by first | rfl | omega | simp) (rfl) (Has.own 0 rfl)) rfl (by first | omega | ((try simp only [H8.len, shaK_len, sched_len, w16_len, List.length_take] at *); omega)) (Nat.le_of_ble_eq_true rfl) rfl) ?_
  refine DQ.rd rfl rfl (fun _ => rd_shr32 (k := 10) rfl rfl (rfl) (by decide)) ?_
  refine DQ.done rfl ?_
  refine rdx (rd_xor32 rfl rfl) ?_
  refine rdx (rd_assign (v := .int _ _) rfl) ?_
  refine TO.nil (TQ.then_normal ?_)
  refine T.drawg Tryz.mixes 17 [(103, 0), (104, 1), (105, 2), (106, 3), (107, 4), (108, 5), (109, 6), (110, 7), (111, 8), (112, 9), (113, 10), (114, 11), (115, 12), (116, 13), (117, 14), (118, 15), (119, 16)] [0, 0, 0, 4, 14, 30, 0, 126, 0, 0, 512, 1792, 3840, 8190, 0, 32766, 65534, 131071, 262143] [16] (by kernel_rfl) ?_
  refine DG.rd rfl rfl rfl (fun _ _ => rd_move (v := .slice _ _ _) rfl) ?_
  refine DG.rd rfl rfl rfl (fun _ _ => rd_move (v := .slice _ _ _) rfl) ?_
  refine DG.rd rfl rfl rfl (fun _ _ => rd_move (v := .int _ _) rfl) ?_
  refine DG.rd rfl rfl rfl (fun _ _ => rd_sub rfl rfl (w64 (by first | omega | ((try simp only [H8.len, shaK_len, sched_len, w16_len, List.length_take] at *); omega)) (by first | omega | ((try simp only [H8.len, shaK_len, sched_len, w16_len, List.length_take] at *); omega)))) ?_
  refine DG.rd rfl rfl rfl (fun _ _ => rd_ix (k := (k - 16)) Tryz.under138 Tryz.size137 rfl rfl (row_slc' (e := eW) (xs := wd) (fun _ => rfl) (by first | rfl | omega | simp) (rfl) (Has.own 0 rfl)) (by omega) (by first | omega | ((try simp only [H8.len, shaK_len, sched_len, w16_len, List.length_take] at *); omega)) (by omega)) ?_
  refine DG.rd rfl rfl rfl (fun _ _ => rd_el (v := .int _ _) (k - 16) 0 Tryz.one137 rfl (row_slc' (e := eW) (xs := wd) (fun _ => rfl) (by first | rfl | omega | simp) (rfl) (Has.own 0 rfl)) rfl (by first | omega | ((try simp only [H8.len, shaK_len, sched_len, w16_len, List.length_take] at *); omega)) (Nat.le_of_ble_eq_true rfl) rfl) ?_
  refine DG.rd rfl rfl rfl (fun _ _ => rd_move (v := .int _ _) rfl) ?_
  refine DG.rd rfl rfl rfl (fun _ _ => rd_add32 rfl rfl) ?_
  refine DG.rd rfl rfl rfl (fun _ _ => rd_move (v := .slice _ _ _) rfl) ?_
  refine DG.rd rfl rfl rfl (fun _ _ => rd_move (v := .int _ _) rfl) ?_
  refine DG.rd rfl rfl rfl (fun _ _ => rd_sub rfl rfl (w64 (by first | omega | ((try simp only [H8.len, shaK_len, sched_len, w16_len, List.length_take] at *); omega)) (by first | omega | ((try simp only [H8.len, shaK_len, sched_len, w16_len, List.length_take] at *); omega)))) ?_
  refine DG.rd rfl rfl rfl (fun _ _ => rd_ix (k := (k - 7)) Tryz.under138 Tryz.size137 rfl rfl (row_slc' (e := eW) (xs := wd) (fun _ => rfl) (by first | rfl | omega | simp) (rfl) (Has.own 0 rfl)) (by omega) (by first | omega | ((try simp only [H8.len, shaK_len, sched_len, w16_len, List.length_take] at *); omega)) (by omega)) ?_
  refine DG.rd rfl rfl rfl (fun _ _ => rd_el (v := .int _ _) (k - 7) 0 Tryz.one137 rfl (row_slc' (e := eW) (xs := wd) (fun _ => rfl) (by first | rfl | omega | simp) (rfl) (Has.own 0 rfl)) rfl (by first | omega | ((try simp only [H8.len, shaK_len, sched_len, w16_len, List.length_take] at *); omega)) (Nat.le_of_ble_eq_true rfl) rfl) ?_
  refine DG.rd rfl rfl rfl (fun _ _ => rd_add32 rfl rfl) ?_
  refine DG.rd rfl rfl rfl (fun _ _ => rd_move (v := .int _ _) rfl) ?_
  refine DG.rd rfl rfl rfl (fun _ _ => rd_add32 rfl rfl) ?_
  refine DG.buildS (cs := [.int _ _]) rfl rfl Tryz.under138 Tryz.size137 Tryz.zero137 (Nat.le_of_ble_eq_true rfl) (fun _ _ => rfl) ?_
  refine DG.done rfl (by decide) rfl (fun gh11 => ?_)
  refine TO.front1 ?_
  refine TO.app Tryz.trow137 Tryz.under138 (.inl ⟨_, Tryz.under138⟩) rfl rfl (Src.own1 1 rfl rfl) rfl rfl (by first | omega | (have := H8.len h; omega)) (fun A12 c13 hc14 => ?_)
  refine TO.row_eq (cs' := (wd ++ [wnext wd]).flatMap eW) rfl (by rw [List.flatMap_append, wnext_get hwl hk16]; rfl) ?_
  refine rdx (rd_assign (v := .slice _ _ _) rfl) ?_
  refine TO.nil (TQ.block_normal (TQ.then_normal (T.region ?_)))
  refine rdx (rd_move (v := .int _ _) rfl) ?_
  refine rdx (rd_add rfl rfl (w64 (by first | omega | ((try simp only [H8.len, shaK_len, sched_len, w16_len, List.length_take] at *); omega)) (by first | omega | ((try simp only [H8.len, shaK_len, sched_len, w16_len, List.length_take] at *); omega)))) ?_
  refine rdx (rd_assign (v := .int _ _) rfl) ?_
  refine TO.nil ?_
  refine TQ.againk (A12, c13, k + 1, wd ++ [wnext wd]) ?_ ?_ (And.intro (rfl) (And.intro (rfl) (trivial))) (And.intro (rfl) (trivial)) (fun _ _ h => h.sel (js := [0, 2]) (by decide))
  ·refine ⟨by simp; omega, by dsimp only; omega, ?_, by dsimp only; omega⟩
   rw [← hw, show 64 - k = (64 - (k + 1)) + 1 by omega]
   rfl
  ·first | omega | (dsimp only; omega)
 try simp only [nrm] at h9
 refine T.exit (TQ.then_exit (TQ.then_exit (TQ.block_out (TQ.then_normal (T.seq (T.region ?_))))))
 refine TO.fnx Tryz.enters104 (c_ref02_constants) rfl Reads0 (fun ⟨A15, cap16⟩ hx17 => ?_)
 refine rdx (rd_assign (v := .slice _ _ _) rfl) ?_
 refine TO.nil (TQ.then_normal (T.seq (T.region ?_)))
 refine rdx (rd_assign (v := .slice none 0 0) rfl) ?_
 refine TO.newrow 137 1 ?_
 refine TO.nil (TQ.then_normal (T.seq (T.region ?_)))
 refine rdx (rd_move (v := .slice _ _ _) rfl) ?_
 refine rdx (rd_move (v := .slice _ _ _) rfl) ?_
 refine TO.app Tryz.trow137 Tryz.under138 (.inl ⟨_, Tryz.under138⟩) rfl rfl (fun _ _ _ hw => Src.ofSlc (e := eW) (fun _ => rfl) (Has.arg 0 rfl) hw) (flatMap_len (e := eW) (fun _ => rfl) _) (flatMap_one (e := eW) (fun _ => rfl) _) (by first | omega | (have := H8.len h; omega)) (fun A20 c21 hc22 => ?_)
 refine rdx (rd_assign (v := .slice _ _ _) rfl) ?_
 refine TO.nil (TQ.then_normal (T.seq (T.seq (T.region ?_))))
 refine rdx (rd_assign (v := .int _ _) rfl) ?_
 refine TO.nil (TQ.then_normal (T.block ?_))
 obtain rfl : k = 64 := by omega
 have hws : wd = sched b := by simpa only [Nat.sub_self, wext] using hw
 have hkl := shaK_len
 refine T.loop4 [0, 5, 10] (fun (A2 : Option Addr) (cap2 : Nat) (k : Nat) (v : H8) => [(11, .slice A2 8 cap2), (12, .int .i64 (k : Nat))]) (fun (A2 : Option Addr) (cap2 : Nat) (k : Nat) (v : H8) => [row 137 1 A2 8 cap2 (v.l.flatMap eW)]) (fun (A2 : Option Addr) (cap2 : Nat) (k : Nat) (v : H8) => v = rnds h ((shaK.zip wd).take k) ∧ k ≤ 64) (fun (A2 : Option Addr) (cap2 : Nat) (k : Nat) (v : H8) => 64 - k) (A20) (c21) (0) (h) (⟨rfl, by decide⟩) (And.intro (rfl) (And.intro (rfl) (trivial))) (fun _ _ h => h) fun A2 cap2 k v g2 hx2 => ?_
 obtain ⟨hv, hk⟩ := hx2
 have hvl : v.l.length = 8 := rfl
 refine T.seq (T.seq (T.region ?_))
 refine rdx (rd_move (v := .int _ _) rfl) ?_
 refine rdx (rd_lss rfl rfl) ?_
 refine TO.nil (TQ.then_normal ?_)
 refine T.cond_ft rfl (fun h23 => ?_) (fun h23 => ?_)
 ·try simp only [nrm] at h23
  refine T.exit (TQ.then_exit (TQ.then_exit (TQ.block_out (TQ.then_normal (T.seq (T.region ?_))))))
  refine rdx (rd_assign (v := .slice none 0 0) rfl) ?_
  refine TO.newrow 137 1 ?_
  refine TO.nil (TQ.then_normal (T.seq (T.seq (T.region ?_))))
  refine rdx (rd_assign (v := .int _ _) rfl) ?_
  refine TO.nil (TQ.then_normal (T.block ?_))
  refine T.loop3 [0, 11] (fun (A3 : Option Addr) (cap3 : Nat) (k : Nat) => [(17, .slice A3 k cap3), (18, .int .i64 (k : Nat))]) (fun (A3 : Option Addr) (cap3 : Nat) (k : Nat) => [row 137 1 A3 k cap3 (((h.add v).l.take k).flatMap eW)]) (fun (A3 : Option Addr) (cap3 : Nat) (k : Nat) => k ≤ 8) (fun (A3 : Option Addr) (cap3 : Nat) (k : Nat) => 8 - k) (none) (0) (0) (Nat.zero_le _) (And.intro (rfl) (And.intro (rfl) (trivial))) (fun _ _ h => h) fun A3 cap3 k g3 hx3 => ?_
  refine T.seq (T.seq (T.region ?_))
  refine rdx (rd_move (v := .int _ _) rfl) ?_
  refine rdx (rd_lss rfl rfl) ?_
  refine TO.nil (TQ.then_normal ?_)
  refine T.cond_ft rfl (fun h26 => ?_) (fun h26 => ?_)
  ·try simp only [nrm] at h26
   refine T.exit (TQ.then_exit (TQ.then_exit (TQ.block_out (TQ.then_normal (T.seq (T.region ?_))))))
   refine rdx (rd_move (v := .slice _ _ _) rfl) ?_
   refine rdx (rd_assign (v := .slice _ _ _) rfl) ?_
   refine TO.nil (TQ.then_normal (T.ret ?_))
   refine TQ.done ((A3, cap3)) (trivial) ?_ (fun _ _ => seps_row 0 rfl (by omega) (by rw [shaBlock, List.take_of_length_le (by rw [H8.len]; omega), hv, ← hws, List.take_of_length_le (by rw [zip_len hwl]; omega)])) (res1 Tryz.results98 (Res.tmp (v := .slice _ _ _) rfl)) _ (.inl rfl)
   rw [show k = 8 by omega]
  try simp only [nrm] at h26
  refine T.skip (TQ.then_normal (T.seq (T.block ?_)))
  refine T.drawg Tryz.mixes 11 [(225, 0), (226, 1), (227, 2), (228, 3), (229, 4), (230, 5), (231, 6), (232, 7), (233, 8), (234, 9), (235, 10)] [0, 0, 0, 6, 14, 0, 0, 96, 224, 510, 1022, 2047, 4095] [10] (by kernel_rfl) ?_
  refine DG.rd rfl rfl rfl (fun _ _ => rd_move (v := .slice _ _ _) rfl) ?_
  refine DG.rd rfl rfl rfl (fun _ _ => rd_move (v := .slice _ _ _) rfl) ?_
  refine DG.rd rfl rfl rfl (fun _ _ => rd_move (v := .int _ _) rfl) ?_
  refine DG.rd rfl rfl rfl (fun _ _ => rd_ix Tryz.under138 Tryz.size137 rfl rfl (Has.arg 0 rfl) rfl (by first | omega | ((try simp only [H8.len, shaK_len, sched_len, w16_len, List.length_take] at *); omega)) (by omega)) ?_
  refine DG.rd rfl rfl rfl (fun _ _ => rd_el (v := .int _ _) _ 0 Tryz.one137 rfl (Has.arg 0 rfl) rfl (by first | omega | ((try simp only [H8.len, shaK_len, sched_len, w16_len, List.length_take] at *); omega)) (Nat.le_of_ble_eq_true rfl) rfl) ?_
  refine DG.rd rfl rfl rfl (fun _ _ => rd_move (v := .slice _ _ _) rfl) ?_
  refine DG.rd rfl rfl rfl (fun _ _ => rd_move (v := .int _ _) rfl) ?_
  refine DG.rd rfl rfl rfl (fun _ _ => rd_ix Tryz.under138 Tryz.size137 rfl rfl (row_slc' (e := eW) (xs := v.l) (fun _ => rfl) (by first | rfl | omega | simp) (rfl) (Has.own 1 rfl)) rfl (by first | omega | ((try simp only [H8.len, shaK_len, sched_len, w16_len, List.length_take] at *); omega)) (by omega)) ?_
  refine DG.rd rfl rfl rfl (fun _ _ => rd_el (v := .int _ _) _ 0 Tryz.one137 rfl (row_slc' (e := eW) (xs := v.l) (fun _ => rfl) (by first | rfl | omega | simp) (rfl) (Has.own 1 rfl)) rfl (by first | omega | ((try simp only [H8.len, shaK_len, sched_len, w16_len, List.length_take] at *); omega)) (Nat.le_of_ble_eq_true rfl) rfl) ?_
  refine DG.rd rfl rfl rfl (fun _ _ => rd_add32 rfl rfl) ?_
  refine DG.buildS (cs := [.int _ _]) rfl rfl Tryz.under138 Tryz.size137 Tryz.zero137 (Nat.le_of_ble_eq_true rfl) (fun _ _ => rfl) ?_
  refine DG.done rfl (by decide) rfl (fun gh28 => ?_)
  refine TO.front1 ?_
  refine TO.app Tryz.trow137 Tryz.under138 (.inl ⟨_, Tryz.under138⟩) rfl rfl (Src.own1 1 rfl rfl) rfl rfl (by first | omega | (have := H8.len h; omega)) (fun A29 c30 hc31 => ?_)
  refine TO.row_eq (cs' := ((h.add v).l.take (k + 1)).flatMap eW) rfl (add_row (by omega) _ _) ?_
  refine rdx (rd_assign (v := .slice _ _ _) rfl) ?_
  refine TO.nil (TQ.block_normal (TQ.then_normal (T.region ?_)))
  refine rdx (rd_move (v := .int _ _) rfl) ?_
  refine rdx (rd_add rfl rfl (w64 (by first | omega | ((try simp only [H8.len, shaK_len, sched_len, w16_len, List.length_take] at *); omega)) (by first | omega | ((try simp only [H8.len, shaK_len, sched_len, w16_len, List.length_take] at *); omega)))) ?_
  refine rdx (rd_assign (v := .int _ _) rfl) ?_
  refine TO.nil ?_
  refine TQ.againk (A29, c30, k + 1) ?_ ?_ (And.intro (rfl) (And.intro (rfl) (trivial))) (And.intro (rfl) (And.intro (rfl) (trivial))) (fun _ _ h => h.sel (js := [0, 2, 3, 4, 5]) (by decide))
  ·first | omega | (dsimp only; omega)
  ·first | omega | (dsimp only; omega)
 try simp only [nrm] at h23
 refine T.skip (TQ.then_normal (T.seq (T.block (T.seq (T.region ?_)))))
 refine rdx (rd_move (v := .slice _ _ _) rfl) ?_
 refine rdx (rd_ix (k := 0) Tryz.under138 Tryz.size137 rfl rfl (row_slc' (e := eW) (xs := v.l) (fun _ => rfl) (by first | rfl | omega | simp) (rfl) (Has.own 0 rfl)) rfl (by first | omega | ((try simp only [H8.len, shaK_len, sched_len, w16_len, List.length_take] at *); omega)) (by omega)) ?_
 refine rdx (rd_el (v := .int _ _) 0 0 Tryz.one137 rfl (row_slc' (e := eW) (xs := v.l) (fun _ => rfl) (by first | rfl | omega | simp) (rfl) (Has.own 0 rfl)) rfl (by first | omega | ((try simp only [H8.len, shaK_len, sched_len, w16_len, List.length_take] at *); omega)) (Nat.le_of_ble_eq_true rfl) rfl) ?_
 refine rdx (rd_assign (v := .int _ _) rfl) ?_
 refine TO.nil (TQ.then_normal (T.seq (T.region ?_)))
 refine rdx (rd_move (v := .slice _ _ _) rfl) ?_
 refine rdx (rd_ix (k := 4) Tryz.under138 Tryz.size137 rfl rfl (row_slc' (e := eW) (xs := v.l) (fun _ => rfl) (by first | rfl | omega | simp) (rfl) (Has.own 0 rfl)) rfl (by first | omega | ((try simp only [H8.len, shaK_len, sched_len, w16_len, List.length_take] at *); omega)) (by omega)) ?_
 refine rdx (rd_el (v := .int _ _) 4 0 Tryz.one137 rfl (row_slc' (e := eW) (xs := v.l) (fun _ => rfl) (by first | rfl | omega | simp) (rfl) (Has.own 0 rfl)) rfl (by first | omega | ((try simp only [H8.len, shaK_len, sched_len, w16_len, List.length_take] at *); omega)) (Nat.le_of_ble_eq_true rfl) rfl) ?_
 refine rdx (rd_assign (v := .int _ _) rfl) ?_
 refine TO.nil (TQ.then_normal (T.seq ?_))
 refine T.drawq Tryz.mixes 34 [(135, 0), (136, 1), (137, 2), (138, 3), (139, 4), (140, 5), (141, 6), (142, 7), (143, 8), (144, 9), (145, 10), (146, 11), (147, 12), (148, 13), (149, 14), (150, 15), (151, 16), (152, 17), (153, 18), (154, 19), (155, 20), (156, 21), (157, 22), (158, 23), (159, 24), (160, 25), (161, 26), (162, 27), (163, 28), (164, 29), (165, 30), (166, 31), (167, 32), (168, 33)] [0, 1, 3, 0, 8, 0, 56, 120, 0, 376, 1016, 2047, 0, 0, 8192, 24576, 61440, 0, 131072, 0, 524288, 1572864, 4063232, 8384512, 16777215, 0, 0, 100663296, 234881024, 536870911, 0, 0, 3221225472, 7516192768, 17179869183, 34359738367] (by kernel_rfl) ?_
 refine DQ.rd rfl rfl (fun _ => rd_move (v := .slice _ _ _) rfl) ?_
 refine DQ.rd rfl rfl (fun _ => rd_ix (k := 7) Tryz.under138 Tryz.size137 rfl rfl (row_slc' (e := eW) (xs := v.l) (fun _ => rfl) (by first | rfl | omega | simp) (rfl) (Has.own 0 rfl)) rfl (by first | omega | ((try simp only [H8.len, shaK_len, sched_len, w16_len, List.length_take] at *); omega)) (by omega)) ?_
 refine DQ.rd rfl rfl (fun _ => rd_el (v := .int _ _) 7 0 Tryz.one137 rfl (row_slc' (e := eW) (xs := v.l) (fun _ => rfl) (by first | rfl | omega | simp) (rfl) (Has.own 0 rfl)) rfl (by first | omega | ((try simp only [H8.len, shaK_len, sched_len, w16_len, List.length_take] at *); omega)) (Nat.le_of_ble_eq_true rfl) rfl) ?_
 refine DQ.rd rfl rfl (fun _ => rd_move (v := .int _ _) rfl) ?_
 refine DQ.fn rfl Tryz.enters103 (c_ref02_rotated _ 6 (by decide) (by decide)) (fun _ => rfl) Reads0 ?_
 refine DQ.rd rfl rfl (fun _ => rd_move (v := .int _ _) rfl) ?_
 refine DQ.fn rfl Tryz.enters103 (c_ref02_rotated _ 11 (by decide) (by decide)) (fun _ => rfl) Reads0 ?_
 refine DQ.rd rfl rfl (fun _ => rd_xor32 rfl rfl) ?_
 refine DQ.rd rfl rfl (fun _ => rd_move (v := .int _ _) rfl) ?_
 refine DQ.fn rfl Tryz.enters103 (c_ref02_rotated _ 25 (by decide) (by decide)) (fun _ => rfl) Reads0 ?_
 refine DQ.rd rfl rfl (fun _ => rd_xor32 rfl rfl) ?_
 refine DQ.rd rfl rfl (fun _ => rd_add32 rfl rfl) ?_
 refine DQ.rd rfl rfl (fun _ => rd_move (v := .int _ _) rfl) ?_
 refine DQ.rd rfl rfl (fun _ => rd_move (v := .slice _ _ _) rfl) ?_
 refine DQ.rd rfl rfl (fun _ => rd_ix (k := 5) Tryz.under138 Tryz.size137 rfl rfl (row_slc' (e := eW) (xs := v.l) (fun _ => rfl) (by first | rfl | omega | simp) (rfl) (Has.own 0 rfl)) rfl (by first | omega | ((try simp only [H8.len, shaK_len, sched_len, w16_len, List.length_take] at *); omega)) (by omega)) ?_
 refine DQ.rd rfl rfl (fun _ => rd_el (v := .int _ _) 5 0 Tryz.one137 rfl (row_slc' (e := eW) (xs := v.l) (fun _ => rfl) (by first | rfl | omega | simp) (rfl) (Has.own 0 rfl)) rfl (by first | omega | ((try simp only [H8.len, shaK_len, sched_len, w16_len, List.length_take] at *); omega)) (Nat.le_of_ble_eq_true rfl) rfl) ?_
 refine DQ.rd rfl rfl (fun _ => rd_and32 rfl rfl) ?_
 refine DQ.rd rfl rfl (fun _ => rd_move (v := .int _ _) rfl) ?_
 refine DQ.rd rfl rfl (fun _ => rd_not32 rfl) ?_
 refine DQ.rd rfl rfl (fun _ => rd_move (v := .slice _ _ _) rfl) ?_
 refine DQ.rd rfl rfl (fun _ => rd_ix (k := 6) Tryz.under138 Tryz.size137 rfl rfl (row_slc' (e := eW) (xs := v.l) (fun _ => rfl) (by first | rfl | omega | simp) (rfl) (Has.own 0 rfl)) rfl (by first | omega | ((try simp only [H8.len, shaK_len, sched_len, w16_len, List.length_take] at *); omega)) (by omega)) ?_
 refine DQ.rd rfl rfl (fun _ => rd_el (v := .int _ _) 6 0 Tryz.one137 rfl (row_slc' (e := eW) (xs := v.l) (fun _ => rfl) (by first | rfl | omega | simp) (rfl) (Has.own 0 rfl)) rfl (by first | omega | ((try simp only [H8.len, shaK_len, sched_len, w16_len, List.length_take] at *); omega)) (Nat.le_of_ble_eq_true rfl) rfl) ?_
 refine DQ.rd rfl rfl (fun _ => rd_and32 rfl rfl) ?_
 refine DQ.rd rfl rfl (fun _ => rd_xor32 rfl rfl) ?_
 refine DQ.rd rfl rfl (fun _ => rd_add32 rfl rfl) ?_
 refine DQ.rd rfl rfl (fun _ => rd_move (v := .slice _ _ _) rfl) ?_
 refine DQ.rd rfl rfl (fun _ => rd_move (v := .int _ _) rfl) ?_
 refine DQ.rd rfl rfl (fun _ => rd_ix Tryz.under138 Tryz.size137 rfl rfl (row_slc' (e := eW) (xs := shaK) (fun _ => rfl) (by first | rfl | omega | simp) (by first | rfl | simp) (Has.own 1 rfl)) rfl (by first | omega | ((try simp only [H8.len, shaK_len, sched_len, w16_len, List.length_take] at *); omega)) (by omega)) ?_
 refine DQ.rd rfl rfl (fun _ => rd_el (v := .int _ _) _ 0 Tryz.one137 rfl (row_slc' (e := eW) (xs := shaK) (fun _ => rfl) (by first | rfl | omega | simp) (by first | rfl | simp) (Has.own 1 rfl)) rfl (by first | omega | ((try simp only [H8.len, shaK_len, sched_len, w16_len, List.length_take] at *); omega)) (Nat.le_of_ble_eq_true rfl) rfl) ?_
 refine DQ.rd rfl rfl (fun _ => rd_add32 rfl rfl) ?_
 refine DQ.rd rfl rfl (fun _ => rd_move (v := .slice _ _ _) rfl) ?_
 refine DQ.rd rfl rfl (fun _ => rd_move (v := .int _ _) rfl) ?_
 refine DQ.rd rfl rfl (fun _ => rd_ix Tryz.under138 Tryz.size137 rfl rfl (row_slc' (e := eW) (xs := wd) (fun _ => rfl) (by first | rfl | omega | simp) (rfl) (Has.own 2 rfl)) rfl (by first | omega | ((try simp only [H8.len, shaK_len, sched_len, w16_len, List.length_take] at *); omega)) (by omega)) ?_
 refine DQ.rd rfl rfl (fun _ => rd_el (v := .int _ _) _ 0 Tryz.one137 rfl (row_slc' (e := eW) (xs := wd) (fun _ => rfl) (by first | rfl | omega | simp) (rfl) (Has.own 2 rfl)) rfl (by first | omega | ((try simp only [H8.len, shaK_len, sched_len, w16_len, List.length_take] at *); omega)) (Nat.le_of_ble_eq_true rfl) rfl) ?_
 refine DQ.done rfl ?_
 refine rdx (rd_add32 rfl rfl) ?_
 refine rdx (rd_assign (v := .int _ _) rfl) ?_
 refine TO.nil (TQ.then_normal (T.seq ?_))
 refine T.drawq Tryz.mixes 27 [(170, 0), (171, 1), (172, 2), (173, 3), (174, 4), (175, 5), (176, 6), (177, 7), (178, 8), (179, 9), (180, 10), (181, 11), (182, 12), (183, 13), (184, 14), (185, 15), (186, 16), (187, 17), (188, 18), (189, 19), (190, 20), (191, 21), (192, 22), (193, 23), (194, 24), (195, 25), (196, 26)] [0, 1, 0, 7, 15, 0, 47, 127, 0, 0, 512, 1536, 3840, 0, 0, 16384, 49152, 122880, 261888, 0, 524288, 1572864, 0, 4194304, 12582912, 33030144, 67108608, 134217727, 268435455] (by kernel_rfl) ?_
 refine DQ.rd rfl rfl (fun _ => rd_move (v := .int _ _) rfl) ?_
 refine DQ.fn rfl Tryz.enters103 (c_ref02_rotated _ 2 (by decide) (by decide)) (fun _ => rfl) Reads0 ?_
 refine DQ.rd rfl rfl (fun _ => rd_move (v := .int _ _) rfl) ?_
 refine DQ.fn rfl Tryz.enters103 (c_ref02_rotated _ 13 (by decide) (by decide)) (fun _ => rfl) Reads0 ?_
 refine DQ.rd rfl rfl (fun _ => rd_xor32 rfl rfl) ?_
 refine DQ.rd rfl rfl (fun _ => rd_move (v := .int _ _) rfl) ?_
 refine DQ.fn rfl Tryz.enters103 (c_ref02_rotated _ 22 (by decide) (by decide)) (fun _ => rfl) Reads0 ?_
 refine DQ.rd rfl rfl (fun _ => rd_xor32 rfl rfl) ?_
 refine DQ.rd rfl rfl (fun _ => rd_move (v := .int _ _) rfl) ?_
 refine DQ.rd rfl rfl (fun _ => rd_move (v := .slice _ _ _) rfl) ?_
 refine DQ.rd rfl rfl (fun _ => rd_ix (k := 1) Tryz.under138 Tryz.size137 rfl rfl (row_slc' (e := eW) (xs := v.l) (fun _ => rfl) (by first | rfl | omega | simp) (rfl) (Has.own 0 rfl)) rfl (by first | omega | ((try simp only [H8.len, shaK_len, sched_len, w16_len, List.length_take] at *); omega)) (by omega)) ?_
 refine DQ.rd rfl rfl (fun _ => rd_el (v := .int _ _) 1 0 Tryz.one137 rfl (row_slc' (e := eW) (xs := v.l) (fun _ => rfl) (by first | rfl | omega | simp) (rfl) (Has.own 0 rfl)) rfl (by first | omega | ((try simp only [H8.len, shaK_len, sched_len, w16_len, List.length_take] at *); omega)) (Nat.le_of_ble_eq_true rfl) rfl) ?_
 refine DQ.rd rfl rfl (fun _ => rd_and32 rfl rfl) ?_
 refine DQ.rd rfl rfl (fun _ => rd_move (v := .int _ _) rfl) ?_
 refine DQ.rd rfl rfl (fun _ => rd_move (v := .slice _ _ _) rfl) ?_
 refine DQ.rd rfl rfl (fun _ => rd_ix (k := 2) Tryz.under138 Tryz.size137 rfl rfl (row_slc' (e := eW) (xs := v.l) (fun _ => rfl) (by first | rfl | omega | simp) (rfl) (Has.own 0 rfl)) rfl (by first | omega | ((try simp only [H8.len, shaK_len, sched_len, w16_len, List.length_take] at *); omega)) (by omega)) ?_
 refine DQ.rd rfl rfl (fun _ => rd_el (v := .int _ _) 2 0 Tryz.one137 rfl (row_slc' (e := eW) (xs := v.l) (fun _ => rfl) (by first | rfl | omega | simp) (rfl) (Has.own 0 rfl)) rfl (by first | omega | ((try simp only [H8.len, shaK_len, sched_len, w16_len, List.length_take] at *); omega)) (Nat.le_of_ble_eq_true rfl) rfl) ?_
 refine DQ.rd rfl rfl (fun _ => rd_and32 rfl rfl) ?_
 refine DQ.rd rfl rfl (fun _ => rd_xor32 rfl rfl) ?_
 refine DQ.rd rfl rfl (fun _ => rd_move (v := .slice _ _ _) rfl) ?_
 refine DQ.rd rfl rfl (fun _ => rd_ix (k := 1) Tryz.under138 Tryz.size137 rfl rfl (row_slc' (e := eW) (xs := v.l) (fun _ => rfl) (by first | rfl | omega | simp) (rfl) (Has.own 0 rfl)) rfl (by first | omega | ((try simp only [H8.len, shaK_len, sched_len, w16_len, List.length_take] at *); omega)) (by omega)) ?_
 refine DQ.rd rfl rfl (fun _ => rd_el (v := .int _ _) 1 0 Tryz.one137 rfl (row_slc' (e := eW) (xs := v.l) (fun _ => rfl) (by first | rfl | omega | simp) (rfl) (Has.own 0 rfl)) rfl (by first | omega | ((try simp only [H8.len, shaK_len, sched_len, w16_len, List.length_take] at *); omega)) (Nat.le_of_ble_eq_true rfl) rfl) ?_
 refine DQ.rd rfl rfl (fun _ => rd_move (v := .slice _ _ _) rfl) ?_
 refine DQ.rd rfl rfl (fun _ => rd_ix (k := 2) Tryz.under138 Tryz.size137 rfl rfl (row_slc' (e := eW) (xs := v.l) (fun _ => rfl) (by first | rfl | omega | simp) (rfl) (Has.own 0 rfl)) rfl (by first | omega | ((try simp only [H8.len, shaK_len, sched_len, w16_len, List.length_take] at *); omega)) (by omega)) ?_
 refine DQ.rd rfl rfl (fun _ => rd_el (v := .int _ _) 2 0 Tryz.one137 rfl (row_slc' (e := eW) (xs := v.l) (fun _ => rfl) (by first | rfl | omega | simp) (rfl) (Has.own 0 rfl)) rfl (by first | omega | ((try simp only [H8.len, shaK_len, sched_len, w16_len, List.length_take] at *); omega)) (Nat.le_of_ble_eq_true rfl) rfl) ?_
 refine DQ.rd rfl rfl (fun _ => rd_and32 rfl rfl) ?_
 refine DQ.rd rfl rfl (fun _ => rd_xor32 rfl rfl) ?_
 refine DQ.done rfl ?_
 refine rdx (rd_add32 rfl rfl) ?_
 refine rdx (rd_assign (v := .int _ _) rfl) ?_
 refine TO.nil (TQ.then_normal ?_)
 refine T.drawq Tryz.mixes 22 [(198, 0), (199, 1), (200, 2), (201, 3), (202, 4), (203, 5), (204, 6), (205, 7), (206, 8), (207, 9), (208, 10), (209, 11), (210, 12), (211, 13), (212, 14), (213, 15), (214, 16), (215, 17), (216, 18), (217, 19), (218, 20), (219, 21)] [0, 0, 3, 0, 0, 16, 48, 0, 128, 384, 0, 1024, 3072, 0, 15360, 0, 0, 65536, 196608, 0, 524288, 1572864, 4194303, 8388607] (by kernel_rfl) ?_
 refine DQ.rd rfl rfl (fun _ => rd_move (v := .int _ _) rfl) ?_
 refine DQ.rd rfl rfl (fun _ => rd_move (v := .int _ _) rfl) ?_
 refine DQ.rd rfl rfl (fun _ => rd_add32 rfl rfl) ?_
 refine DQ.rd rfl rfl (fun _ => rd_move (v := .int _ _) rfl) ?_
 refine DQ.rd rfl rfl (fun _ => rd_move (v := .slice _ _ _) rfl) ?_
 refine DQ.rd rfl rfl (fun _ => rd_ix (k := 1) Tryz.under138 Tryz.size137 rfl rfl (row_slc' (e := eW) (xs := v.l) (fun _ => rfl) (by first | rfl | omega | simp) (rfl) (Has.own 0 rfl)) rfl (by first | omega | ((try simp only [H8.len, shaK_len, sched_len, w16_len, List.length_take] at *); omega)) (by omega)) ?_
 refine DQ.rd rfl rfl (fun _ => rd_el (v := .int _ _) 1 0 Tryz.one137 rfl (row_slc' (e := eW) (xs := v.l) (fun _ => rfl) (by first | rfl | omega | simp) (rfl) (Has.own 0 rfl)) rfl (by first | omega | ((try simp only [H8.len, shaK_len, sched_len, w16_len, List.length_take] at *); omega)) (Nat.le_of_ble_eq_true rfl) rfl) ?_
 refine DQ.rd rfl rfl (fun _ => rd_move (v := .slice _ _ _) rfl) ?_
 refine DQ.rd rfl rfl (fun _ => rd_ix (k := 2) Tryz.under138 Tryz.size137 rfl rfl (row_slc' (e := eW) (xs := v.l) (fun _ => rfl) (by first | rfl | omega | simp) (rfl) (Has.own 0 rfl)) rfl (by first | omega | ((try simp only [H8.len, shaK_len, sched_len, w16_len, List.length_take] at *); omega)) (by omega)) ?_
 refine DQ.rd rfl rfl (fun _ => rd_el (v := .int _ _) 2 0 Tryz.one137 rfl (row_slc' (e := eW) (xs := v.l) (fun _ => rfl) (by first | rfl | omega | simp) (rfl) (Has.own 0 rfl)) rfl (by first | omega | ((try simp only [H8.len, shaK_len, sched_len, w16_len, List.length_take] at *); omega)) (Nat.le_of_ble_eq_true rfl) rfl) ?_
 refine DQ.rd rfl rfl (fun _ => rd_move (v := .slice _ _ _) rfl) ?_
 refine DQ.rd rfl rfl (fun _ => rd_ix (k := 3) Tryz.under138 Tryz.size137 rfl rfl (row_slc' (e := eW) (xs := v.l) (fun _ => rfl) (by first | rfl | omega | simp) (rfl) (Has.own 0 rfl)) rfl (by first | omega | ((try simp only [H8.len, shaK_len, sched_len, w16_len, List.length_take] at *); omega)) (by omega)) ?_
 refine DQ.rd rfl rfl (fun _ => rd_el (v := .int _ _) 3 0 Tryz.one137 rfl (row_slc' (e := eW) (xs := v.l) (fun _ => rfl) (by first | rfl | omega | simp) (rfl) (Has.own 0 rfl)) rfl (by first | omega | ((try simp only [H8.len, shaK_len, sched_len, w16_len, List.length_take] at *); omega)) (Nat.le_of_ble_eq_true rfl) rfl) ?_
 refine DQ.rd rfl rfl (fun _ => rd_move (v := .int _ _) rfl) ?_
 refine DQ.rd rfl rfl (fun _ => rd_add32 rfl rfl) ?_
 refine DQ.rd rfl rfl (fun _ => rd_move (v := .int _ _) rfl) ?_
 refine DQ.rd rfl rfl (fun _ => rd_move (v := .slice _ _ _) rfl) ?_
 refine DQ.rd rfl rfl (fun _ => rd_ix (k := 5) Tryz.under138 Tryz.size137 rfl rfl (row_slc' (e := eW) (xs := v.l) (fun _ => rfl) (by first | rfl | omega | simp) (rfl) (Has.own 0 rfl)) rfl (by first | omega | ((try simp only [H8.len, shaK_len, sched_len, w16_len, List.length_take] at *); omega)) (by omega)) ?_
 refine DQ.rd rfl rfl (fun _ => rd_el (v := .int _ _) 5 0 Tryz.one137 rfl (row_slc' (e := eW) (xs := v.l) (fun _ => rfl) (by first | rfl | omega | simp) (rfl) (Has.own 0 rfl)) rfl (by first | omega | ((try simp only [H8.len, shaK_len, sched_len, w16_len, List.length_take] at *); omega)) (Nat.le_of_ble_eq_true rfl) rfl) ?_
 refine DQ.rd rfl rfl (fun _ => rd_move (v := .slice _ _ _) rfl) ?_
 refine DQ.rd rfl rfl (fun _ => rd_ix (k := 6) Tryz.under138 Tryz.size137 rfl rfl (row_slc' (e := eW) (xs := v.l) (fun _ => rfl) (by first | rfl | omega | simp) (rfl) (Has.own 0 rfl)) rfl (by first | omega | ((try simp only [H8.len, shaK_len, sched_len, w16_len, List.length_take] at *); omega)) (by omega)) ?_
 refine DQ.rd rfl rfl (fun _ => rd_el (v := .int _ _) 6 0 Tryz.one137 rfl (row_slc' (e := eW) (xs := v.l) (fun _ => rfl) (by first | rfl | omega | simp) (rfl) (Has.own 0 rfl)) rfl (by first | omega | ((try simp only [H8.len, shaK_len, sched_len, w16_len, List.length_take] at *); omega)) (Nat.le_of_ble_eq_true rfl) rfl) ?_
 refine DQ.done rfl ?_
 refine TO.buildS (cs := [.int _ _, .int _ _, .int _ _, .int _ _, .int _ _, .int _ _, .int _ _, .int _ _]) Tryz.under138 Tryz.size137 Tryz.zero137 (Nat.le_of_ble_eq_true rfl) rfl (fun b24 => ?_)
 refine rdx (rd_assign (v := .slice _ _ _) rfl) ?_
 refine TO.nil (TQ.block_normal (TQ.then_normal (T.region ?_)))
 refine rdx (rd_move (v := .int _ _) rfl) ?_
 refine rdx (rd_add rfl rfl (w64 (by first | omega | ((try simp only [H8.len, shaK_len, sched_len, w16_len, List.length_take] at *); omega)) (by first | omega | ((try simp only [H8.len, shaK_len, sched_len, w16_len, List.length_take] at *); omega)))) ?_
 refine rdx (rd_assign (v := .int _ _) rfl) ?_
 refine TO.nil ?_
 refine TQ.torow0 1 8 rfl (by decide) ?_
 refine TQ.againk ((some ⟨b24, 0, none⟩), 8, k + 1, rnd v (shaK[k]'(by rw [shaK_len]; omega), wd[k]'(by omega))) ?_ ?_ (And.intro (rfl) (And.intro (rfl) (trivial))) (And.intro (rfl) (And.intro (rfl) (And.intro (rfl) (trivial)))) (fun _ _ h => h.sel (js := [0, 2, 3, 4]) (by decide))
 ·exact ⟨by rw [rnds_succ hwl (by omega), ← hv], by dsimp only; omega⟩
 ·first | omega | (dsimp only; omega)
end Go.Proofs
end
section
set_option linter.unusedVariables false
set_option linter.unusedSimpArgs false
set_option maxRecDepth 100000
set_option maxHeartbeats 800000
namespace Go.Proofs
open Go.TL
attribute [local irreducible] Go.TL.T Go.TL.TO Go.TL.TQ
theorem Tryz.under110 : Tryz.prog.underlying 110 = some (.slice 3) := by kernel_rfl
theorem Tryz.zero3 : TyZero Tryz.prog 3 (.int .i64 0) := fun w => by kernel_rfl
theorem Tryz.enters67 : Enters Tryz.prog 67 := fun args w => by kernel_rfl
end Go.Proofs
end
section
set_option linter.unusedVariables false
set_option linter.unusedSimpArgs false
set_option maxRecDepth 100000
set_option maxHeartbeats 800000
namespace Go.Proofs
open Go.TL
attribute [local irreducible] Go.TL.T Go.TL.TO Go.TL.TQ
theorem c_ref15_puts (A : Option Addr) (cap n : Nat) (l : List Int) (hn : n = l.length) (hl : l.length ≤ 1000) : Cv Tryz.prog 67 #[.slice A n cap] [slc eInt 1 A l] (.string (str (puts l))) := by
 subst hn
 refine Ctr.intro Tryz.func67 rfl Tryz.ntmps67 (Nat.le_of_ble_eq_true rfl) fun S0 w0 => ?_
 refine T.seq (T.region ?_)
 refine rdx (rd_assign (v := .string _) rfl) ?_
 refine TO.nil (TQ.then_normal (T.seq (T.region ?_)))
 refine rdx (rd_assign (v := .string _) rfl) ?_
 refine TO.nil (TQ.then_normal (T.seq (T.seq (T.region ?_))))
 refine rdx (rd_assign (v := .int _ _) rfl) ?_
 refine TO.nil (TQ.then_normal (T.block ?_))
 refine T.loop1 [0] (fun (k : Nat) => [(4, .int .i64 (k : Nat)), (3, .string (str (puts (l.take k))))]) (fun (k : Nat) => []) (fun (k : Nat) => k ≤ l.length) (fun (k : Nat) => l.length - k) (0) (Nat.zero_le _) (And.intro (rfl) (And.intro (rfl) (trivial))) (fun _ _ h => h) fun k g0 hx0 => ?_
 refine T.seq (T.seq (T.region ?_))
 refine rdx (rd_move (v := .int _ _) rfl) ?_
 refine rdx (rd_move (v := .slice _ _ _) rfl) ?_
 refine rdx (rd_lensl Tryz.under110 rfl) ?_
 refine rdx (rd_lss rfl rfl) ?_
 refine TO.nil (TQ.then_normal ?_)
 refine T.cond_ft rfl (fun h1 => ?_) (fun h1 => ?_)
 ·try simp only [nrm] at h1
  refine T.exit (TQ.then_exit (TQ.then_exit (TQ.block_out (TQ.then_normal (T.seq (T.region ?_))))))
  refine rdx (rd_move (v := .string _) rfl) ?_
  refine rdx (rd_assign (v := .string _) rfl) ?_
  refine TO.nil (TQ.then_normal (T.ret ?_))
  refine TQ.value ?_ (res1 Tryz.results67 (Res.tmp (v := .string _) rfl)) _ (.inl rfl)
  rw [List.take_of_length_le (by omega)]
 try simp only [nrm] at h1
 refine T.skip (TQ.then_normal (T.seq (T.block (T.seq (T.region ?_)))))
 refine rdx (rd_move (v := .slice _ _ _) rfl) ?_
 refine rdx (rd_move (v := .int _ _) rfl) ?_
 refine rdx (rd_ix Tryz.under110 Tryz.size3 rfl rfl (Has.arg 0 rfl) rfl (by omega) (by omega)) ?_
 refine rdx (rd_el (v := .int _ _) _ 0 Tryz.one3 rfl (Has.arg 0 rfl) rfl (by omega) (Nat.le_of_ble_eq_true rfl) rfl) ?_
 refine TO.fn Tryz.enters94 (c_ref01_PutInt _) rfl Reads0 ?_
 refine rdx (rd_move (v := .tuple _) rfl) ?_
 refine rdx (rd_extract (v := .string _) (vs := _) rfl rfl) ?_
 refine rdx (rd_extract (v := .int _ _) (vs := _) rfl rfl) ?_
 refine rdx (rd_assign (v := .string _) rfl) ?_
 refine rdx (rd_assign (v := .int _ _) rfl) ?_
 refine TO.nil (TQ.then_normal (T.region ?_))
 refine rdx (rd_move (v := .string _) rfl) ?_
 refine rdx (rd_move (v := .string _) rfl) ?_
 refine rdx (rd_cat' (c := puts (l.take (k + 1))) rfl rfl (by have h1 := puts_length (l.take k); have h2 := putInt_length (l[k]'(by omega)); rw [List.length_take] at h1; omega) (by rw [← take_snoc (by omega), puts_snoc])) ?_
 refine rdx (rd_assign (v := .string _) rfl) ?_
 refine TO.nil (TQ.block_normal (TQ.then_normal (T.region ?_)))
 refine rdx (rd_move (v := .int _ _) rfl) ?_
 refine rdx (rd_add rfl rfl (w64 (by omega) (by omega))) ?_
 refine rdx (rd_assign (v := .int _ _) rfl) ?_
 refine TO.nil ?_
 refine TQ.againk (k + 1) ?_ ?_ (And.intro (rfl) (And.intro (rfl) (trivial))) (And.intro (rfl) (trivial)) (fun _ _ h => h)
 ·first | omega | (dsimp only; omega)
 ·first | omega | (dsimp only; omega)
theorem c_ref15_ProxyContent (p : Proxy) : Cv Tryz.prog 36 #[proxyV p] [] (.string (str (proxyText p))) := by
 refine Ctr.intro Tryz.func36 rfl Tryz.ntmps36 (Nat.le_of_ble_eq_true rfl) fun S0 w0 => ?_
 refine T.seq (T.region ?_)
 refine TO.box (v := .agg #[.int _ _, .int _ _, .int _ _, .int _ _, .int _ _, .int _ _, .string _]) rfl (fun b1 => ?_)
 refine rdx (rd_assign (v := .string _) rfl) ?_
 refine TO.nil (TQ.then_normal (T.seq (T.region ?_)))
 refine rdx (rd_fieldAddr Tryz.field40_0 rfl) ?_
 refine rdx (rd_load (v := .int _ _) Tryz.one3 rfl (Has.own 0 rfl) rfl) ?_
 refine rdx (rd_fieldAddr Tryz.field40_1 rfl) ?_
 refine rdx (rd_load (v := .int _ _) Tryz.one3 rfl (Has.own 0 rfl) rfl) ?_
 refine rdx (rd_fieldAddr Tryz.field40_2 rfl) ?_
 refine rdx (rd_fieldAddr Tryz.field27_0 rfl) ?_
 refine rdx (rd_load (v := .int _ _) Tryz.one3 rfl (Has.own 0 rfl) rfl) ?_
 refine rdx (rd_fieldAddr Tryz.field40_2 rfl) ?_
 refine rdx (rd_fieldAddr Tryz.field27_1 rfl) ?_
 refine rdx (rd_load (v := .int _ _) Tryz.one3 rfl (Has.own 0 rfl) rfl) ?_
 refine rdx (rd_fieldAddr Tryz.field40_3 rfl) ?_
 refine rdx (rd_fieldAddr Tryz.field28_0 rfl) ?_
 refine rdx (rd_load (v := .int _ _) Tryz.one3 rfl (Has.own 0 rfl) rfl) ?_
 refine rdx (rd_fieldAddr Tryz.field40_3 rfl) ?_
 refine rdx (rd_fieldAddr Tryz.field28_1 rfl) ?_
 refine rdx (rd_load (v := .int _ _) Tryz.one3 rfl (Has.own 0 rfl) rfl) ?_
 refine TO.buildS (cs := [.int _ _, .int _ _, .int _ _, .int _ _, .int _ _, .int _ _, .int _ _]) Tryz.under110 Tryz.size3 Tryz.zero3 (Nat.le_of_ble_eq_true rfl) rfl (fun b2 => ?_)
 refine TO.fn Tryz.enters67 (c_ref15_puts _ _ _ [2, p.frm, p.to, p.rlo, p.rhi, p.slo, p.shi] (by first | rfl | simp | omega) (by simp)) rfl (ReadsC (own_slc (e := eInt) [2, p.frm, p.to, p.rlo, p.rhi, p.slo, p.shi] rfl (fun _ => rfl) (Has.own 0 rfl) (by simp)) Reads0) ?_
 refine rdx (rd_assign (v := .string _) rfl) ?_
 refine TO.nil (TQ.then_normal (T.ret ?_))
 refine TQ.value ?_ (res1 Tryz.results36 (Res.tmp (v := .string _) rfl)) _ (.inl rfl)
 rfl
theorem c_ref15_WishContent (w : Wish) : Cv Tryz.prog 35 #[wishV w] [] (.string (str (wishText w))) := by
 refine Ctr.intro Tryz.func35 rfl Tryz.ntmps35 (Nat.le_of_ble_eq_true rfl) fun S0 w0 => ?_
 refine T.seq (T.region ?_)
 refine TO.box (v := .agg #[.int _ _, .int _ _, .int _ _, .int _ _, .int _ _, .int _ _, .int _ _, .int _ _, .string _]) rfl (fun b1 => ?_)
 refine rdx (rd_assign (v := .string _) rfl) ?_
 refine TO.nil (TQ.then_normal (T.seq (T.region ?_)))
 refine rdx (rd_fieldAddr Tryz.field30_0 rfl) ?_
 refine rdx (rd_load (v := .int _ _) Tryz.one3 rfl (Has.own 0 rfl) rfl) ?_
 refine rdx (rd_fieldAddr Tryz.field30_1 rfl) ?_
 refine rdx (rd_load (v := .int _ _) Tryz.one3 rfl (Has.own 0 rfl) rfl) ?_
 refine rdx (rd_fieldAddr Tryz.field30_2 rfl) ?_
 refine rdx (rd_fieldAddr Tryz.field27_0 rfl) ?_
 refine rdx (rd_load (v := .int _ _) Tryz.one3 rfl (Has.own 0 rfl) rfl) ?_
 refine rdx (rd_fieldAddr Tryz.field30_2 rfl) ?_
 refine rdx (rd_fieldAddr Tryz.field27_1 rfl) ?_
 refine rdx (rd_load (v := .int _ _) Tryz.one3 rfl (Has.own 0 rfl) rfl) ?_
 refine rdx (rd_fieldAddr Tryz.field30_3 rfl) ?_
 refine rdx (rd_load (v := .int _ _) Tryz.one3 rfl (Has.own 0 rfl) rfl) ?_
 refine rdx (rd_fieldAddr Tryz.field30_4 rfl) ?_
 refine rdx (rd_load (v := .int _ _) Tryz.one3 rfl (Has.own 0 rfl) rfl) ?_
 refine rdx (rd_fieldAddr Tryz.field30_5 rfl) ?_
 refine rdx (rd_fieldAddr Tryz.field28_0 rfl) ?_
 refine rdx (rd_load (v := .int _ _) Tryz.one3 rfl (Has.own 0 rfl) rfl) ?_
 refine rdx (rd_fieldAddr Tryz.field30_5 rfl) ?_
 refine rdx (rd_fieldAddr Tryz.field28_1 rfl) ?_
 refine rdx (rd_load (v := .int _ _) Tryz.one3 rfl (Has.own 0 rfl) rfl) ?_
 refine TO.buildS (cs := [.int _ _, .int _ _, .int _ _, .int _ _, .int _ _, .int _ _, .int _ _, .int _ _, .int _ _]) Tryz.under110 Tryz.size3 Tryz.zero3 (Nat.le_of_ble_eq_true rfl) rfl (fun b2 => ?_)
 refine TO.fn Tryz.enters67 (c_ref15_puts _ _ _ [1, w.signer, w.holder, w.rlo, w.rhi, w.carrier, w.serial, w.slo, w.shi] (by first | rfl | simp | omega) (by simp)) rfl (ReadsC (own_slc (e := eInt) [1, w.signer, w.holder, w.rlo, w.rhi, w.carrier, w.serial, w.slo, w.shi] rfl (fun _ => rfl) (Has.own 0 rfl) (by simp)) Reads0) ?_
 refine rdx (rd_assign (v := .string _) rfl) ?_
 refine TO.nil (TQ.then_normal (T.ret ?_))
 refine TQ.value ?_ (res1 Tryz.results35 (Res.tmp (v := .string _) rfl)) _ (.inl rfl)
 rfl
end Go.Proofs
end
section
set_option linter.unusedVariables false
set_option linter.unusedSimpArgs false
set_option maxRecDepth 100000
set_option maxHeartbeats 800000
namespace Go.Proofs
open Go.TL
attribute [local irreducible] Go.TL.T Go.TL.TO Go.TL.TQ
theorem c_ref02_Sum (s : Bytes) (hs : s.length ≤ 1000000000000) : Cv Tryz.prog 78 #[.string (str s)] [] (.string (str (sha s))) := by
 refine Ctr.intro Tryz.func78 rfl Tryz.ntmps78 (Nat.le_of_ble_eq_true rfl) fun S0 w0 => ?_
 refine T.seq (T.region ?_)
 refine rdx (rd_assign (v := .string _) rfl) ?_
 refine TO.nil (TQ.then_normal (T.seq (T.region ?_)))
 refine TO.buildS (cs := [.int _ _, .int _ _, .int _ _, .int _ _, .int _ _, .int _ _, .int _ _, .int _ _]) Tryz.under138 Tryz.size137 Tryz.zero137 (Nat.le_of_ble_eq_true rfl) rfl (fun b1 => ?_)
 refine rdx (rd_assign (v := .slice _ _ _) rfl) ?_
 refine TO.nil (TQ.then_normal (T.seq (T.region ?_)))
 refine rdx (rd_move (v := .string _) rfl) ?_
 refine TO.fnx Tryz.enters97 (c_ref02_extended _ (by omega)) rfl Reads0 (fun ⟨A2, cap3⟩ hx4 => ?_)
 replace hx4 : (pad s).length ≤ cap3 := hx4
 refine rdx (rd_assign (v := .slice _ _ _) rfl) ?_
 refine TO.nil (TQ.then_normal (T.seq (T.seq (T.region ?_))))
 refine rdx (rd_assign (v := .int _ _) rfl) ?_
 refine TO.nil (TQ.then_normal (T.block ?_))
 refine T.front1 ?_
 refine T.torow0 1 8 rfl (by decide) ?_
 have hp64 := pad_len s
 have hpl := pad_le s
 refine T.loop4 [4] (fun (A1 : Option Addr) (cap1 : Nat) (q : Nat) (h : H8) => [(3, .slice A1 8 cap1), (5, .int .i64 ((64 * q : Nat) : Int))]) (fun (A1 : Option Addr) (cap1 : Nat) (q : Nat) (h : H8) => [row 137 1 A1 8 cap1 (h.l.flatMap eW)]) (fun (A1 : Option Addr) (cap1 : Nat) (q : Nat) (h : H8) => shaBlocks ((pad s).length / 64 - q) h ((pad s).drop (64 * q)) = shaBlocks ((pad s).length / 64) shaH (pad s) ∧ 64 * q ≤ (pad s).length) (fun (A1 : Option Addr) (cap1 : Nat) (q : Nat) (h : H8) => (pad s).length - 64 * q) ((some ⟨b1, 0, none⟩)) (8) (0) (shaH) (⟨by rw [Nat.mul_zero, Nat.sub_zero, List.drop_zero], Nat.zero_le _⟩) (And.intro (rfl) (And.intro (rfl) (trivial))) (fun _ _ h => h) fun A1 cap1 q h g0 hx0 => ?_
 obtain ⟨hB, hq⟩ := hx0
 refine T.seq (T.seq (T.region ?_))
 refine rdx (rd_move (v := .int _ _) rfl) ?_
 refine rdx (rd_move (v := .slice _ _ _) rfl) ?_
 refine rdx (rd_lensl Tryz.under62 rfl) ?_
 refine rdx (rd_lss rfl rfl) ?_
 refine TO.nil (TQ.then_normal ?_)
 refine T.cond rfl (fun h6 => ?_) (fun h6 => ?_)
 ·try simp only [nrm] at h6
  refine T.skip (TQ.then_normal (T.seq (T.block (T.region ?_))))
  refine rdx (rd_move (v := .slice _ _ _) rfl) ?_
  refine rdx (rd_move (v := .slice _ _ _) rfl) ?_
  refine rdx (rd_move (v := .int _ _) rfl) ?_
  refine rdx (rd_move (v := .int _ _) rfl) ?_
  refine rdx (rd_add rfl rfl (w64 (by first | omega | (have := pad_le s; omega)) (by first | omega | (have := pad_le s; omega)))) ?_
  refine rdx (rd_sub_slice (i := 64 * q) (j := 64 * q + 64) Tryz.under62 Tryz.size5 rfl (.inr ⟨_, rfl⟩) (.inr ⟨_, rfl⟩) (by omega) (by omega) (by omega)) ?_
  refine TO.fnx Tryz.enters98 (c_ref02_block _ _ _ h.l (by first | rfl | (simp only [List.length_drop, List.length_take]; omega)) _ _ _ (((pad s).take (64 * q + 64)).drop (64 * q)) (by first | rfl | (simp only [List.length_drop, List.length_take]; omega)) _ rfl (by first | rfl | (simp only [List.length_drop, List.length_take]; omega))) rfl (ReadsC (row_slc' (e := eW) (xs := h.l) (fun _ => rfl) (by first | rfl | omega | simp) (rfl) (Has.own 0 rfl)) (ReadsC (slc_sub (i := 64 * q) (j := 64 * q + 64) (cap := cap3) (row_slc' (e := eByte) (xs := (pad s)) (fun _ => rfl) (rfl) (bytesC_flat _) (Has.own 1 rfl)) (by omega) (by omega) (by omega)) Reads0)) (fun ⟨A7, cap8⟩ hx9 => ?_)
  refine rdx (rd_assign (v := .slice _ _ _) rfl) ?_
  refine TO.nil (TQ.block_normal (TQ.then_normal (T.region ?_)))
  refine rdx (rd_move (v := .int _ _) rfl) ?_
  refine rdx (rd_add rfl rfl (w64 (by first | omega | (have := pad_le s; omega)) (by first | omega | (have := pad_le s; omega)))) ?_
  refine rdx (rd_assign (v := .int _ _) rfl) ?_
  refine TO.nil ?_
  refine TQ.againk (A7, cap8, q + 1, shaBlock h (((pad s).take (64 * q + 64)).drop (64 * q))) ?_ ?_ (And.intro (rfl) (And.intro (rfl) (trivial))) (And.intro (rfl) (trivial)) (fun _ _ h => h.sel (js := [0, 2]) (by decide))
  ·refine ⟨?_, by dsimp only; omega⟩
   rw [← hB, show (pad s).length / 64 - q = ((pad s).length / 64 - (q + 1)) + 1 by omega, shaBlocks_succ, List.drop_drop, List.drop_take]
   dsimp only
   rw [show 64 * q + 64 - 64 * q = 64 by omega]
   rfl
  ·first | omega | (dsimp only; omega)
 try simp only [nrm] at h6
 refine T.exit (TQ.then_exit (TQ.then_exit (TQ.block_out (TQ.then_normal (T.seq (T.region ?_))))))
 refine rdx (rd_assign (v := .slice none 0 0) rfl) ?_
 refine TO.newrow 5 1 ?_
 refine TO.nil (TQ.then_normal (T.seq (T.seq (T.region ?_))))
 refine rdx (rd_assign (v := .int _ _) rfl) ?_
 refine TO.nil (TQ.then_normal (T.block ?_))
 have hH : h = shaBlocks ((pad s).length / 64) shaH (pad s) := by
  rw [show (pad s).length / 64 - q = 0 by omega] at hB; rw [← hB]; rfl
 have hl8 : h.l.length = 8 := rfl
 refine T.loop3 [3] (fun (A2 : Option Addr) (cap2 : Nat) (k : Nat) => [(6, .slice A2 (4 * k) cap2), (7, .int .i64 (k : Nat))]) (fun (A2 : Option Addr) (cap2 : Nat) (k : Nat) => [row 5 1 A2 (4 * k) cap2 (bytesC ((h.l.take k).flatMap be4))]) (fun (A2 : Option Addr) (cap2 : Nat) (k : Nat) => k ≤ 8) (fun (A2 : Option Addr) (cap2 : Nat) (k : Nat) => 8 - k) (none) (0) (0) (Nat.zero_le _) (And.intro (rfl) (And.intro (rfl) (trivial))) (fun _ _ h => h) fun A2 cap2 k g1 hx1 => ?_
 refine T.seq (T.seq (T.region ?_))
 refine rdx (rd_move (v := .int _ _) rfl) ?_
 refine rdx (rd_lss rfl rfl) ?_
 refine TO.nil (TQ.then_normal ?_)
 refine T.cond_ft rfl (fun h12 => ?_) (fun h12 => ?_)
 ·try simp only [nrm] at h12
  refine T.exit (TQ.then_exit (TQ.then_exit (TQ.block_out (TQ.then_normal (T.seq (T.region ?_))))))
  refine rdx (rd_move (v := .slice _ _ _) rfl) ?_
  refine rdx (rd_row_str Tryz.under62 Tryz.under5 Tryz.under9 rfl (Has.own 0 rfl)) ?_
  refine rdx (rd_assign (v := .string _) rfl) ?_
  refine TO.nil (TQ.then_normal (T.ret ?_))
  refine TQ.value ?_ (res1 Tryz.results78 (Res.tmp (v := .string _) rfl)) _ (.inl rfl)
  rw [sha, ← hH, List.take_of_length_le (by omega)]
 try simp only [nrm] at h12
 refine T.skip (TQ.then_normal (T.seq (T.block ?_)))
 refine T.drawg Tryz.mixes 25 [(28, 0), (29, 1), (30, 2), (31, 3), (32, 4), (33, 5), (34, 6), (35, 7), (36, 8), (37, 9), (38, 10), (39, 11), (40, 12), (41, 13), (42, 14), (43, 15), (44, 16), (45, 17), (46, 18), (47, 19), (48, 20), (49, 21), (50, 22), (51, 23), (52, 24)] [0, 0, 0, 6, 14, 30, 62, 0, 0, 384, 896, 1920, 3968, 0, 0, 24576, 57344, 122880, 253952, 0, 0, 1572864, 3670016, 7864320, 16777214, 33554431, 67108863] [24] (by kernel_rfl) ?_
 refine DG.rd rfl rfl rfl (fun _ _ => rd_move (v := .slice _ _ _) rfl) ?_
 refine DG.rd rfl rfl rfl (fun _ _ => rd_move (v := .slice _ _ _) rfl) ?_
 refine DG.rd rfl rfl rfl (fun _ _ => rd_move (v := .int _ _) rfl) ?_
 refine DG.rd rfl rfl rfl (fun _ _ => rd_ix Tryz.under138 Tryz.size137 rfl rfl (row_slc' (e := eW) (xs := h.l) (fun _ => rfl) (by first | rfl | omega | simp) (rfl) (Has.own 1 rfl)) rfl (by first | omega | (have := pad_le s; omega)) (by first | omega | (have := pad_le s; omega))) ?_
 refine DG.rd rfl rfl rfl (fun _ _ => rd_el (v := .int _ _) _ 0 Tryz.one137 rfl (row_slc' (e := eW) (xs := h.l) (fun _ => rfl) (by first | rfl | omega | simp) (rfl) (Has.own 1 rfl)) rfl (by first | omega | (have := pad_le s; omega)) (Nat.le_of_ble_eq_true rfl) rfl) ?_
 refine DG.rd rfl rfl rfl (fun _ _ => rd_shr32 (k := 24) rfl rfl (rfl) (by decide)) ?_
 refine DG.rd rfl rfl rfl (fun _ _ => rd_conv32_8 Tryz.isome137 Tryz.under5 rfl) ?_
 refine DG.rd rfl rfl rfl (fun _ _ => rd_move (v := .slice _ _ _) rfl) ?_
 refine DG.rd rfl rfl rfl (fun _ _ => rd_move (v := .int _ _) rfl) ?_
 refine DG.rd rfl rfl rfl (fun _ _ => rd_ix Tryz.under138 Tryz.size137 rfl rfl (row_slc' (e := eW) (xs := h.l) (fun _ => rfl) (by first | rfl | omega | simp) (rfl) (Has.own 1 rfl)) rfl (by first | omega | (have := pad_le s; omega)) (by first | omega | (have := pad_le s; omega))) ?_
 refine DG.rd rfl rfl rfl (fun _ _ => rd_el (v := .int _ _) _ 0 Tryz.one137 rfl (row_slc' (e := eW) (xs := h.l) (fun _ => rfl) (by first | rfl | omega | simp) (rfl) (Has.own 1 rfl)) rfl (by first | omega | (have := pad_le s; omega)) (Nat.le_of_ble_eq_true rfl) rfl) ?_
 refine DG.rd rfl rfl rfl (fun _ _ => rd_shr32 (k := 16) rfl rfl (rfl) (by decide)) ?_
 refine DG.rd rfl rfl rfl (fun _ _ => rd_conv32_8 Tryz.isome137 Tryz.under5 rfl) ?_
 refine DG.rd rfl rfl rfl (fun _ _ => rd_move (v := .slice _ _ _) rfl) ?_
 refine DG.rd rfl rfl rfl (fun _ _ => rd_move (v := .int _ _) rfl) ?_
 refine DG.rd rfl rfl rfl (fun _ _ => rd_ix Tryz.under138 Tryz.size137 rfl rfl (row_slc' (e := eW) (xs := h.l) (fun _ => rfl) (by first | rfl | omega | simp) (rfl) (Has.own 1 rfl)) rfl (by first | omega | (have := pad_le s; omega)) (by first | omega | (have := pad_le s; omega))) ?_
 refine DG.rd rfl rfl rfl (fun _ _ => rd_el (v := .int _ _) _ 0 Tryz.one137 rfl (row_slc' (e := eW) (xs := h.l) (fun _ => rfl) (by first | rfl | omega | simp) (rfl) (Has.own 1 rfl)) rfl (by first | omega | (have := pad_le s; omega)) (Nat.le_of_ble_eq_true rfl) rfl) ?_
 refine DG.rd rfl rfl rfl (fun _ _ => rd_shr32 (k := 8) rfl rfl (rfl) (by decide)) ?_
 refine DG.rd rfl rfl rfl (fun _ _ => rd_conv32_8 Tryz.isome137 Tryz.under5 rfl) ?_
 refine DG.rd rfl rfl rfl (fun _ _ => rd_move (v := .slice _ _ _) rfl) ?_
 refine DG.rd rfl rfl rfl (fun _ _ => rd_move (v := .int _ _) rfl) ?_
 refine DG.rd rfl rfl rfl (fun _ _ => rd_ix Tryz.under138 Tryz.size137 rfl rfl (row_slc' (e := eW) (xs := h.l) (fun _ => rfl) (by first | rfl | omega | simp) (rfl) (Has.own 1 rfl)) rfl (by first | omega | (have := pad_le s; omega)) (by first | omega | (have := pad_le s; omega))) ?_
 refine DG.rd rfl rfl rfl (fun _ _ => rd_el (v := .int _ _) _ 0 Tryz.one137 rfl (row_slc' (e := eW) (xs := h.l) (fun _ => rfl) (by first | rfl | omega | simp) (rfl) (Has.own 1 rfl)) rfl (by first | omega | (have := pad_le s; omega)) (Nat.le_of_ble_eq_true rfl) rfl) ?_
 refine DG.rd rfl rfl rfl (fun _ _ => rd_conv32_8 Tryz.isome137 Tryz.under5 rfl) ?_
 refine DG.buildS (cs := [.int _ _, .int _ _, .int _ _, .int _ _]) rfl rfl Tryz.under62 Tryz.size5 Tryz.zero5 (Nat.le_of_ble_eq_true rfl) (fun _ _ => rfl) ?_
 refine DG.done rfl (by decide) rfl (fun gh14 => ?_)
 refine TO.front1 ?_
 refine TO.app Tryz.trow5 Tryz.under62 (.inl ⟨_, Tryz.under62⟩) rfl rfl (Src.own1 1 rfl rfl) rfl rfl (by omega) (fun A15 c16 hc17 => ?_)
 refine TO.row_eq (cs' := bytesC ((h.l.take (k + 1)).flatMap be4)) rfl (by rw [← take_snoc (by omega), List.flatMap_append, bytesC_append]; rfl) ?_
 refine rdx (rd_assign (v := .slice _ _ _) rfl) ?_
 refine TO.nil (TQ.block_normal (TQ.then_normal (T.region ?_)))
 refine rdx (rd_move (v := .int _ _) rfl) ?_
 refine rdx (rd_add rfl rfl (w64 (by first | omega | (have := pad_le s; omega)) (by first | omega | (have := pad_le s; omega)))) ?_
 refine rdx (rd_assign (v := .int _ _) rfl) ?_
 refine TO.nil ?_
 refine TQ.againk (A15, c16, k + 1) ?_ ?_ (And.intro (rfl) (And.intro (rfl) (trivial))) (And.intro (rfl) (trivial)) (fun _ _ h => h.sel (js := [0, 2, 3]) (by decide))
 ·first | omega | (dsimp only; omega)
 ·first | omega | (dsimp only; omega)
theorem c_ref02_Leaf (s : Bytes) (hs : s.length ≤ 900000000000) : Cv Tryz.prog 79 #[.string (str s)] [] (.string (str (leafOf s))) := by
 refine Ctr.intro Tryz.func79 rfl Tryz.ntmps79 (Nat.le_of_ble_eq_true rfl) fun S0 w0 => ?_
 refine T.seq (T.region ?_)
 refine rdx (rd_assign (v := .string _) rfl) ?_
 refine TO.nil (TQ.then_normal (T.seq (T.region ?_)))
 refine rdx (rd_move (v := .string _) rfl) ?_
 refine rdx (rd_cat' rfl rfl (by first | omega | exact wishText_le _ | exact proxyText_le _ | exact puts3_le _ _ _ | (simp only [List.length_append, List.length_cons, List.length_nil, sha_len, leafOf_len, nodeOf_len, sealOf_len, List.length_take, List.length_drop]; omega) | (rw [keyB_len]; omega)) rfl) ?_
 refine TO.fn Tryz.enters78 (c_ref02_Sum _ (by first | omega | exact wishText_le _ | exact proxyText_le _ | exact puts3_le _ _ _ | (simp only [List.length_append, List.length_cons, List.length_nil, sha_len, leafOf_len, nodeOf_len, sealOf_len, List.length_take, List.length_drop]; omega) | (rw [keyB_len]; omega))) rfl Reads0 ?_
 refine rdx (rd_assign (v := .string _) rfl) ?_
 refine TO.nil (TQ.then_normal (T.ret ?_))
 refine TQ.value ?_ (res1 Tryz.results79 (Res.tmp (v := .string _) rfl)) _ (.inl rfl)
 rfl
theorem c_ref02_Node (a b : Bytes) (ha : a.length ≤ 400000000000) (hb : b.length ≤ 400000000000) : Cv Tryz.prog 91 #[.string (str a), .string (str b)] [] (.string (str (nodeOf a b))) := by
 refine Ctr.intro Tryz.func91 rfl Tryz.ntmps91 (Nat.le_of_ble_eq_true rfl) fun S0 w0 => ?_
 refine T.seq (T.region ?_)
 refine rdx (rd_assign (v := .string _) rfl) ?_
 refine TO.nil (TQ.then_normal (T.seq (T.region ?_)))
 refine rdx (rd_move (v := .string _) rfl) ?_
 refine rdx (rd_cat' rfl rfl (by first | omega | exact wishText_le _ | exact proxyText_le _ | exact puts3_le _ _ _ | (simp only [List.length_append, List.length_cons, List.length_nil, sha_len, leafOf_len, nodeOf_len, sealOf_len, List.length_take, List.length_drop]; omega) | (rw [keyB_len]; omega)) rfl) ?_
 refine rdx (rd_move (v := .string _) rfl) ?_
 refine rdx (rd_cat' rfl rfl (by first | omega | exact wishText_le _ | exact proxyText_le _ | exact puts3_le _ _ _ | (simp only [List.length_append, List.length_cons, List.length_nil, sha_len, leafOf_len, nodeOf_len, sealOf_len, List.length_take, List.length_drop]; omega) | (rw [keyB_len]; omega)) rfl) ?_
 refine TO.fn Tryz.enters78 (c_ref02_Sum _ (by first | omega | exact wishText_le _ | exact proxyText_le _ | exact puts3_le _ _ _ | (simp only [List.length_append, List.length_cons, List.length_nil, sha_len, leafOf_len, nodeOf_len, sealOf_len, List.length_take, List.length_drop]; omega) | (rw [keyB_len]; omega))) rfl Reads0 ?_
 refine rdx (rd_assign (v := .string _) rfl) ?_
 refine TO.nil (TQ.then_normal (T.ret ?_))
 refine TQ.value ?_ (res1 Tryz.results91 (Res.tmp (v := .string _) rfl)) _ (.inl rfl)
 rfl
theorem c_ref15_Seal (a b : Bytes) (ha : a.length ≤ 400000000000) (hb : b.length ≤ 400000000000) : Cv Tryz.prog 58 #[.string (str a), .string (str b)] [] (.string (str (sealOf a b))) := by
 refine Ctr.intro Tryz.func58 rfl Tryz.ntmps58 (Nat.le_of_ble_eq_true rfl) fun S0 w0 => ?_
 refine T.seq (T.region ?_)
 refine rdx (rd_assign (v := .string _) rfl) ?_
 refine TO.nil (TQ.then_normal (T.seq (T.region ?_)))
 refine rdx (rd_move (v := .string _) rfl) ?_
 refine rdx (rd_move (v := .string _) rfl) ?_
 refine TO.fn Tryz.enters79 (c_ref02_Leaf _ (by first | omega | exact wishText_le _ | exact proxyText_le _ | exact puts3_le _ _ _ | (simp only [List.length_append, List.length_cons, List.length_nil, sha_len, leafOf_len, nodeOf_len, sealOf_len, List.length_take, List.length_drop]; omega) | (rw [keyB_len]; omega))) rfl Reads0 ?_
 refine TO.fn Tryz.enters91 (c_ref02_Node _ _ (by first | omega | exact wishText_le _ | exact proxyText_le _ | exact puts3_le _ _ _ | (simp only [List.length_append, List.length_cons, List.length_nil, sha_len, leafOf_len, nodeOf_len, sealOf_len, List.length_take, List.length_drop]; omega) | (rw [keyB_len]; omega)) (by first | omega | exact wishText_le _ | exact proxyText_le _ | exact puts3_le _ _ _ | (simp only [List.length_append, List.length_cons, List.length_nil, sha_len, leafOf_len, nodeOf_len, sealOf_len, List.length_take, List.length_drop]; omega) | (rw [keyB_len]; omega))) rfl Reads0 ?_
 refine rdx (rd_assign (v := .string _) rfl) ?_
 refine TO.nil (TQ.then_normal (T.ret ?_))
 refine TQ.value ?_ (res1 Tryz.results58 (Res.tmp (v := .string _) rfl)) _ (.inl rfl)
 rfl
end Go.Proofs
end
section
set_option linter.unusedVariables false
set_option linter.unusedSimpArgs false
set_option maxRecDepth 100000
set_option maxHeartbeats 800000
namespace Go.Proofs
open Go.TL
attribute [local irreducible] Go.TL.T Go.TL.TO Go.TL.TQ
theorem c_ref15_pick (c n : Int) (c0 : -9223372036854775808 ≤ c) (c1 : c ≤ 9223372036854775807) (hn0 : 0 < n) (hn1 : n ≤ 9223372036854775807) : Cv Tryz.prog 40 #[.int .i64 c, .int .i64 n] [] (.int .i64 (pickN c n)) := by
 refine Ctr.intro Tryz.func40 rfl Tryz.ntmps40 (Nat.le_of_ble_eq_true rfl) fun S0 w0 => ?_
 refine T.seq (T.region ?_)
 refine rdx (rd_assign (v := .int _ _) rfl) ?_
 refine TO.nil (TQ.then_normal (T.seq (T.seq (T.region ?_))))
 refine rdx (rd_move (v := .int _ _) rfl) ?_
 refine rdx (rd_lss rfl rfl) ?_
 refine TO.nil (TQ.then_normal ?_)
 refine T.cond_ft rfl (fun h1 => ?_) (fun h1 => ?_)
 ·try simp only [nrm] at h1
  refine T.skip (TQ.then_normal (T.seq (T.region ?_)))
  refine rdx (rd_move (v := .int _ _) rfl) ?_
  refine rdx (rd_move (v := .int _ _) rfl) ?_
  refine rdx (rd_rem rfl rfl (by omega) (Int.tmod_eq_emod_of_nonneg (by omega))) ?_
  refine rdx (rd_assign (v := .int _ _) rfl) ?_
  refine TO.nil (TQ.then_normal (T.ret ?_))
  refine TQ.value ?_ (res1 Tryz.results40 (Res.tmp (v := .int _ _) rfl)) _ (.inl rfl)
  rw [pickN, if_neg (by omega)]
 try simp only [nrm] at h1
 refine T.region ?_
 refine rdx (rd_move (v := .int _ _) rfl) ?_
 refine rdx (rd_add rfl rfl (w64 (by omega) (by omega))) ?_
 refine rdx (rd_neg rfl (w64 (by omega) (by omega))) ?_
 refine rdx (rd_assign (v := .int _ _) rfl) ?_
 refine TO.nil (TQ.then_normal (T.seq (T.region ?_)))
 refine rdx (rd_move (v := .int _ _) rfl) ?_
 refine rdx (rd_move (v := .int _ _) rfl) ?_
 refine rdx (rd_rem rfl rfl (by omega) (Int.tmod_eq_emod_of_nonneg (by omega))) ?_
 refine rdx (rd_assign (v := .int _ _) rfl) ?_
 refine TO.nil (TQ.then_normal (T.ret ?_))
 refine TQ.value ?_ (res1 Tryz.results40 (Res.tmp (v := .int _ _) rfl)) _ (.inl rfl)
 rw [pickN, if_pos (by omega)]; congr 1; congr 1; omega
theorem c_law15_pick (c n : Int) (c0 : -9223372036854775808 ≤ c) (c1 : c ≤ 9223372036854775807) (hn0 : 0 < n) (hn1 : n ≤ 9223372036854775807) : Cv Tryz.prog 9 #[.int .i64 c, .int .i64 n] [] (.int .i64 (pickN c n)) := by
 refine Ctr.intro Tryz.func9 rfl Tryz.ntmps9 (Nat.le_of_ble_eq_true rfl) fun S0 w0 => ?_
 refine T.seq (T.region ?_)
 refine rdx (rd_assign (v := .int _ _) rfl) ?_
 refine TO.nil (TQ.then_normal (T.seq (T.seq (T.region ?_))))
 refine rdx (rd_move (v := .int _ _) rfl) ?_
 refine rdx (rd_lss rfl rfl) ?_
 refine TO.nil (TQ.then_normal ?_)
 refine T.cond_ft rfl (fun h1 => ?_) (fun h1 => ?_)
 ·try simp only [nrm] at h1
  refine T.skip (TQ.then_normal (T.seq (T.region ?_)))
  refine rdx (rd_move (v := .int _ _) rfl) ?_
  refine rdx (rd_move (v := .int _ _) rfl) ?_
  refine rdx (rd_rem rfl rfl (by omega) (Int.tmod_eq_emod_of_nonneg (by omega))) ?_
  refine rdx (rd_assign (v := .int _ _) rfl) ?_
  refine TO.nil (TQ.then_normal (T.ret ?_))
  refine TQ.value ?_ (res1 Tryz.results9 (Res.tmp (v := .int _ _) rfl)) _ (.inl rfl)
  rw [pickN, if_neg (by omega)]
 try simp only [nrm] at h1
 refine T.region ?_
 refine rdx (rd_move (v := .int _ _) rfl) ?_
 refine rdx (rd_add rfl rfl (w64 (by omega) (by omega))) ?_
 refine rdx (rd_neg rfl (w64 (by omega) (by omega))) ?_
 refine rdx (rd_assign (v := .int _ _) rfl) ?_
 refine TO.nil (TQ.then_normal (T.seq (T.region ?_)))
 refine rdx (rd_move (v := .int _ _) rfl) ?_
 refine rdx (rd_move (v := .int _ _) rfl) ?_
 refine rdx (rd_rem rfl rfl (by omega) (Int.tmod_eq_emod_of_nonneg (by omega))) ?_
 refine rdx (rd_assign (v := .int _ _) rfl) ?_
 refine TO.nil (TQ.then_normal (T.ret ?_))
 refine TQ.value ?_ (res1 Tryz.results9 (Res.tmp (v := .int _ _) rfl)) _ (.inl rfl)
 rw [pickN, if_pos (by omega)]; congr 1; congr 1; omega
theorem c_ref15_narrowed (a b l r : Int) (ha : 0 ≤ a) (hab : a < b) (hb : b ≤ 1000000000000) (l0 : -9223372036854775808 ≤ l) (l1 : l ≤ 9223372036854775807) (r0 : -9223372036854775808 ≤ r) (r1 : r ≤ 9223372036854775807) : Cv Tryz.prog 41 #[.int .i64 a, .int .i64 b, .int .i64 l, .int .i64 r] [] (.tuple #[.int .i64 (narrowA a b l), .int .i64 (narrowB a b l r)]) := by
 refine Ctr.intro Tryz.func41 rfl Tryz.ntmps41 (Nat.le_of_ble_eq_true rfl) fun S0 w0 => ?_
 refine T.seq (T.region ?_)
 refine rdx (rd_assign (v := .int _ _) rfl) ?_
 refine rdx (rd_assign (v := .int _ _) rfl) ?_
 refine TO.nil (TQ.then_normal (T.seq (T.region ?_)))
 refine rdx (rd_move (v := .int _ _) rfl) ?_
 refine rdx (rd_move (v := .int _ _) rfl) ?_
 refine rdx (rd_move (v := .int _ _) rfl) ?_
 refine rdx (rd_move (v := .int _ _) rfl) ?_
 refine rdx (rd_sub rfl rfl (w64 (by omega) (by omega))) ?_
 refine TO.fn Tryz.enters40 (c_ref15_pick _ _ (by omega) (by omega) (by omega) (by omega)) rfl Reads0 ?_
 have e1 := pickN_lo (c := l) (n := b - a) (by omega)
 have e2 := pickN_hi (c := l) (n := b - a) (by omega)
 refine rdx (rd_add rfl rfl (w64 (by omega) (by omega))) ?_
 refine rdx (rd_assign (v := .int _ _) rfl) ?_
 refine TO.nil (TQ.then_normal (T.seq (T.region ?_)))
 refine rdx (rd_move (v := .int _ _) rfl) ?_
 refine rdx (rd_move (v := .int _ _) rfl) ?_
 refine rdx (rd_move (v := .int _ _) rfl) ?_
 refine rdx (rd_move (v := .int _ _) rfl) ?_
 refine rdx (rd_move (v := .int _ _) rfl) ?_
 refine rdx (rd_sub rfl rfl (w64 (by omega) (by omega))) ?_
 refine TO.fn Tryz.enters40 (c_ref15_pick _ _ (by omega) (by omega) (by omega) (by omega)) rfl Reads0 ?_
 have e3 := pickN_lo (c := r) (n := b - (a + pickN l (b - a))) (by omega)
 have e4 := pickN_hi (c := r) (n := b - (a + pickN l (b - a))) (by omega)
 refine rdx (rd_sub rfl rfl (w64 (by omega) (by omega))) ?_
 refine rdx (rd_assign (v := .int _ _) rfl) ?_
 refine rdx (rd_assign (v := .int _ _) rfl) ?_
 refine TO.nil (TQ.then_normal (T.ret ?_))
 refine TQ.value ?_ (res2 Tryz.results41 (Res.tmp (v := .int _ _) rfl) (Res.tmp (v := .int _ _) rfl)) _ (.inl rfl)
 rfl
theorem c_ref15_within (a b c d x y z u : Int) : Cv Tryz.prog 57 #[.agg #[.int .i64 a, .int .i64 b], .agg #[.int .i64 c, .int .i64 d], .agg #[.int .i64 x, .int .i64 y], .agg #[.int .i64 z, .int .i64 u]] [] (.bool (scopeOk a b c d x y z u)) := by
 refine Ctr.intro Tryz.func57 rfl Tryz.ntmps57 (Nat.le_of_ble_eq_true rfl) fun S0 w0 => ?_
 refine T.seq (T.region ?_)
 refine TO.box (v := .agg #[.int _ _, .int _ _]) rfl (fun b1 => ?_)
 refine TO.box (v := .agg #[.int _ _, .int _ _]) rfl (fun b2 => ?_)
 refine TO.box (v := .agg #[.int _ _, .int _ _]) rfl (fun b3 => ?_)
 refine TO.box (v := .agg #[.int _ _, .int _ _]) rfl (fun b4 => ?_)
 refine rdx (rd_assign (v := .bool _) rfl) ?_
 refine TO.nil (TQ.then_normal (T.seq (T.region ?_)))
 refine rdx (rd_fieldAddr Tryz.field27_0 rfl) ?_
 refine rdx (rd_load (v := .int _ _) Tryz.one3 rfl (Has.own 3 rfl) rfl) ?_
 refine rdx (rd_fieldAddr Tryz.field27_0 rfl) ?_
 refine rdx (rd_load (v := .int _ _) Tryz.one3 rfl (Has.own 1 rfl) rfl) ?_
 refine rdx (rd_geq rfl rfl) ?_
 refine rdx (rd_move (v := .bool _) rfl) ?_
 refine TO.decide_ft (s := 14) rfl (fun h5 => ?_) (fun h5 => ?_)
 ·refine TO.guard_false (s := 14) (b' := false) rfl rfl nofun ?_
  refine TO.guard_false (s := 14) (b' := false) rfl rfl nofun ?_
  refine TO.guard_false (s := 14) (b' := false) rfl rfl nofun ?_
  refine TO.guard_false (s := 14) (b' := false) rfl rfl nofun ?_
  refine TO.guard_false (s := 14) (b' := false) rfl rfl nofun ?_
  refine rdx (rd_pick_false (v := .bool _) rfl rfl) ?_
  refine rdx (rd_move (v := .bool _) rfl) ?_
  refine TO.guard_false (s := 21) (b' := false) rfl rfl nofun ?_
  refine TO.guard_false (s := 21) (b' := false) rfl rfl nofun ?_
  refine TO.guard_false (s := 21) (b' := false) rfl rfl nofun ?_
  refine TO.guard_false (s := 21) (b' := false) rfl rfl nofun ?_
  refine TO.guard_false (s := 21) (b' := false) rfl rfl nofun ?_
  refine rdx (rd_pick_false (v := .bool _) rfl rfl) ?_
  refine rdx (rd_move (v := .bool _) rfl) ?_
  refine TO.guard_false (s := 28) (b' := false) rfl rfl nofun ?_
  refine TO.guard_false (s := 28) (b' := false) rfl rfl nofun ?_
  refine TO.guard_false (s := 28) (b' := false) rfl rfl nofun ?_
  refine TO.guard_false (s := 28) (b' := false) rfl rfl nofun ?_
  refine TO.guard_false (s := 28) (b' := false) rfl rfl nofun ?_
  refine rdx (rd_pick_false (v := .bool _) rfl rfl) ?_
  refine rdx (rd_assign (v := .bool _) rfl) ?_
  refine TO.nil (TQ.then_normal (T.ret ?_))
  refine TQ.value ?_ (res1 Tryz.results57 (Res.tmp (v := .bool _) rfl)) _ (.inl rfl)
  show Value.bool _ = Value.bool _; simp [scopeOk, h5]
 refine TO.guard_true (s := 14) rfl rfl ?_
 refine rdx (rd_fieldAddr Tryz.field27_1 rfl) ?_
 refine TO.guard_true (s := 14) rfl rfl ?_
 refine rdx (rd_load (v := .int _ _) Tryz.one3 rfl (Has.own 3 rfl) rfl) ?_
 refine TO.guard_true (s := 14) rfl rfl ?_
 refine rdx (rd_fieldAddr Tryz.field27_1 rfl) ?_
 refine TO.guard_true (s := 14) rfl rfl ?_
 refine rdx (rd_load (v := .int _ _) Tryz.one3 rfl (Has.own 1 rfl) rfl) ?_
 refine TO.guard_true (s := 14) rfl rfl ?_
 refine rdx (rd_leq rfl rfl) ?_
 refine rdx (rd_pick_true (v := .bool _) rfl rfl) ?_
 refine rdx (rd_move (v := .bool _) rfl) ?_
 refine TO.decide_ft (s := 21) rfl (fun h6 => ?_) (fun h6 => ?_)
 ·refine TO.guard_false (s := 21) (b' := false) rfl rfl nofun ?_
  refine TO.guard_false (s := 21) (b' := false) rfl rfl nofun ?_
  refine TO.guard_false (s := 21) (b' := false) rfl rfl nofun ?_
  refine TO.guard_false (s := 21) (b' := false) rfl rfl nofun ?_
  refine TO.guard_false (s := 21) (b' := false) rfl rfl nofun ?_
  refine rdx (rd_pick_false (v := .bool _) rfl rfl) ?_
  refine rdx (rd_move (v := .bool _) rfl) ?_
  refine TO.guard_false (s := 28) (b' := false) rfl rfl nofun ?_
  refine TO.guard_false (s := 28) (b' := false) rfl rfl nofun ?_
  refine TO.guard_false (s := 28) (b' := false) rfl rfl nofun ?_
  refine TO.guard_false (s := 28) (b' := false) rfl rfl nofun ?_
  refine TO.guard_false (s := 28) (b' := false) rfl rfl nofun ?_
  refine rdx (rd_pick_false (v := .bool _) rfl rfl) ?_
  refine rdx (rd_assign (v := .bool _) rfl) ?_
  refine TO.nil (TQ.then_normal (T.ret ?_))
  refine TQ.value ?_ (res1 Tryz.results57 (Res.tmp (v := .bool _) rfl)) _ (.inl rfl)
  show Value.bool _ = Value.bool _; simp [scopeOk, h5, h6]
 refine TO.guard_true (s := 21) rfl rfl ?_
 refine rdx (rd_fieldAddr Tryz.field28_0 rfl) ?_
 refine TO.guard_true (s := 21) rfl rfl ?_
 refine rdx (rd_load (v := .int _ _) Tryz.one3 rfl (Has.own 2 rfl) rfl) ?_
 refine TO.guard_true (s := 21) rfl rfl ?_
 refine rdx (rd_fieldAddr Tryz.field28_0 rfl) ?_
 refine TO.guard_true (s := 21) rfl rfl ?_
 refine rdx (rd_load (v := .int _ _) Tryz.one3 rfl (Has.own 0 rfl) rfl) ?_
 refine TO.guard_true (s := 21) rfl rfl ?_
 refine rdx (rd_geq rfl rfl) ?_
 refine rdx (rd_pick_true (v := .bool _) rfl rfl) ?_
 refine rdx (rd_move (v := .bool _) rfl) ?_
 refine TO.decide_ft (s := 28) rfl (fun h7 => ?_) (fun h7 => ?_)
 ·refine TO.guard_false (s := 28) (b' := false) rfl rfl nofun ?_
  refine TO.guard_false (s := 28) (b' := false) rfl rfl nofun ?_
  refine TO.guard_false (s := 28) (b' := false) rfl rfl nofun ?_
  refine TO.guard_false (s := 28) (b' := false) rfl rfl nofun ?_
  refine TO.guard_false (s := 28) (b' := false) rfl rfl nofun ?_
  refine rdx (rd_pick_false (v := .bool _) rfl rfl) ?_
  refine rdx (rd_assign (v := .bool _) rfl) ?_
  refine TO.nil (TQ.then_normal (T.ret ?_))
  refine TQ.value ?_ (res1 Tryz.results57 (Res.tmp (v := .bool _) rfl)) _ (.inl rfl)
  show Value.bool _ = Value.bool _; simp [scopeOk, h5, h6, h7]
 refine TO.guard_true (s := 28) rfl rfl ?_
 refine rdx (rd_fieldAddr Tryz.field28_1 rfl) ?_
 refine TO.guard_true (s := 28) rfl rfl ?_
 refine rdx (rd_load (v := .int _ _) Tryz.one3 rfl (Has.own 2 rfl) rfl) ?_
 refine TO.guard_true (s := 28) rfl rfl ?_
 refine rdx (rd_fieldAddr Tryz.field28_1 rfl) ?_
 refine TO.guard_true (s := 28) rfl rfl ?_
 refine rdx (rd_load (v := .int _ _) Tryz.one3 rfl (Has.own 0 rfl) rfl) ?_
 refine TO.guard_true (s := 28) rfl rfl ?_
 refine rdx (rd_leq rfl rfl) ?_
 refine rdx (rd_pick_true (v := .bool _) rfl rfl) ?_
 refine rdx (rd_assign (v := .bool _) rfl) ?_
 refine TO.nil (TQ.then_normal (T.ret ?_))
 refine TQ.value ?_ (res1 Tryz.results57 (Res.tmp (v := .bool _) rfl)) _ (.inl rfl)
 show Value.bool _ = Value.bool _; simp [scopeOk, h5, h6, h7]
theorem c_ref15_Formed (w : Wish) (A : Option Addr) (cap n : Nat) (l : List Proxy) (hn : n = l.length) : Cv Tryz.prog 18 #[wishV w, .slice A n cap] [slc proxyL 7 A l] (.bool (formedOk w l)) := by
 subst hn
 refine Ctr.intro Tryz.func18 rfl Tryz.ntmps18 (Nat.le_of_ble_eq_true rfl) fun S0 w0 => ?_
 refine T.seq (T.region ?_)
 refine TO.box (v := .agg #[.int _ _, .int _ _, .int _ _, .int _ _, .int _ _, .int _ _, .int _ _, .int _ _, .string _]) rfl (fun b1 => ?_)
 refine rdx (rd_assign (v := .bool _) rfl) ?_
 refine TO.nil (TQ.then_normal (T.seq (T.seq (T.region ?_))))
 refine rdx (rd_load_agg (cs := #[.int _ _, .int _ _, .int _ _, .int _ _, .int _ _, .int _ _, .int _ _, .int _ _, .string _]) Tryz.agg30 rfl (Has.own 0 rfl) rfl rfl) ?_
 refine TO.fn Tryz.enters55 (c_ref15_wish _) rfl Reads0 ?_
 refine rdx (rd_not rfl) ?_
 refine rdx (rd_move (v := .bool _) rfl) ?_
 refine TO.decide (s := 9) rfl (fun h2 => ?_) (fun h2 => ?_)
 ·try simp only [nrm] at h2
  refine TO.guard_false (s := 9) (b' := true) rfl rfl nofun ?_
  refine TO.guard_false (s := 9) (b' := true) rfl rfl nofun ?_
  refine TO.guard_false (s := 9) (b' := true) rfl rfl nofun ?_
  refine rdx (rd_pick_true (v := .bool _) rfl rfl) ?_
  refine TO.nil (TQ.then_normal ?_)
  refine T.cond_true rfl ?_
  refine T.seq (T.region ?_)
  refine rdx (rd_assign (v := .bool _) rfl) ?_
  refine TO.nil (TQ.then_normal (T.ret (TQ.then_ret ?_)))
  refine TQ.value ?_ (res1 Tryz.results18 (Res.tmp (v := .bool _) rfl)) _ (.inl rfl)
  rw [formedOk, h2]; rfl
 try simp only [nrm] at h2
 refine TO.guard_true (s := 9) rfl rfl ?_
 refine rdx (rd_move (v := .slice _ _ _) rfl) ?_
 refine TO.guard_true (s := 9) rfl rfl ?_
 refine rdx (rd_lensl Tryz.under31 rfl) ?_
 refine TO.guard_true (s := 9) rfl rfl ?_
 refine rdx (rd_gtr rfl rfl) ?_
 refine rdx (rd_pick_false (v := .bool _) rfl rfl) ?_
 refine TO.nil (TQ.then_normal ?_)
 refine T.cond rfl (fun h3 => ?_) (fun h3 => ?_)
 ·try simp only [nrm] at h3
  refine T.seq (T.region ?_)
  refine rdx (rd_assign (v := .bool _) rfl) ?_
  refine TO.nil (TQ.then_normal (T.ret (TQ.then_ret ?_)))
  refine TQ.value ?_ (res1 Tryz.results18 (Res.tmp (v := .bool _) rfl)) _ (.inl rfl)
  rw [formedOk, show decide (l.length ≤ 4) = false by simp; omega]; simp
 try simp only [nrm] at h3
 refine T.skip (TQ.then_normal (T.seq (T.seq (T.region ?_))))
 refine rdx (rd_assign (v := .int _ _) rfl) ?_
 refine TO.nil (TQ.then_normal (T.block ?_))
 refine T.loop1 [1] (fun (k : Nat) => [(5, .int .i64 (k : Nat))]) (fun (k : Nat) => []) (fun (k : Nat) => k ≤ l.length ∧ (l.take k).all proxyOk = true) (fun (k : Nat) => l.length - k) (0) (⟨Nat.zero_le _, rfl⟩) (And.intro (rfl) (trivial)) (fun _ _ h => h) fun k g0 hx0 => ?_
 obtain ⟨hk, hk0⟩ := hx0
 refine T.seq (T.seq (T.region ?_))
 refine rdx (rd_move (v := .int _ _) rfl) ?_
 refine rdx (rd_move (v := .slice _ _ _) rfl) ?_
 refine rdx (rd_lensl Tryz.under31 rfl) ?_
 refine rdx (rd_lss rfl rfl) ?_
 refine TO.nil (TQ.then_normal ?_)
 refine T.cond_ft rfl (fun h4 => ?_) (fun h4 => ?_)
 ·try simp only [nrm] at h4
  refine T.exit (TQ.then_exit (TQ.then_exit (TQ.block_out (TQ.then_normal (T.seq (T.region ?_))))))
  refine rdx (rd_assign (v := .bool _) rfl) ?_
  refine TO.nil (TQ.then_normal (T.ret ?_))
  refine TQ.value ?_ (res1 Tryz.results18 (Res.tmp (v := .bool _) rfl)) _ (.inl rfl)
  rw [formedOk, h2, show decide (l.length ≤ 4) = true by simp; omega, all_done hk0 (by omega)]; rfl
 try simp only [nrm] at h4
 refine T.skip (TQ.then_normal (T.seq (T.block (T.seq (T.region ?_)))))
 refine rdx (rd_move (v := .slice _ _ _) rfl) ?_
 refine rdx (rd_move (v := .int _ _) rfl) ?_
 refine rdx (rd_ix Tryz.under31 Tryz.size40 rfl rfl (Has.arg 0 rfl) rfl (by omega) (by omega)) ?_
 refine rdx (rd_ela (cs := [.int _ _, .int _ _, .int _ _, .int _ _, .int _ _, .int _ _, .string _]) _ 0 Tryz.agg40 rfl (Has.arg 0 rfl) rfl (by omega) (Nat.le_of_ble_eq_true rfl) rfl rfl rfl) ?_
 refine TO.fn Tryz.enters56 (c_ref15_proxy _) rfl Reads0 ?_
 refine rdx (rd_not rfl) ?_
 refine TO.nil (TQ.then_normal ?_)
 refine T.cond_ft rfl (fun h5 => ?_) (fun h5 => ?_)
 ·try simp only [nrm] at h5
  refine T.skip (TQ.block_normal (TQ.then_normal (T.region ?_)))
  refine rdx (rd_move (v := .int _ _) rfl) ?_
  refine rdx (rd_add rfl rfl (w64 (by omega) (by omega))) ?_
  refine rdx (rd_assign (v := .int _ _) rfl) ?_
  refine TO.nil ?_
  refine TQ.againk (k + 1) ?_ ?_ (And.intro (rfl) (trivial)) (And.intro (rfl) (trivial)) (fun _ _ h => h)
  ·exact ⟨by first | omega | (dsimp only; omega), all_next (by omega) hk0 (by assumption)⟩
  ·first | omega | (dsimp only; omega)
 try simp only [nrm] at h5
 refine T.seq (T.region ?_)
 refine rdx (rd_assign (v := .bool _) rfl) ?_
 refine TO.nil (TQ.then_normal (T.ret (TQ.block_ret (TQ.then_ret (TQ.then_ret (TQ.block_ret (TQ.then_ret ?_)))))))
 refine TQ.value ?_ (res1 Tryz.results18 (Res.tmp (v := .bool _) rfl)) _ (.inl rfl)
 rw [formedOk, show l.all proxyOk = false from all_false hk0 (by assumption)]; simp
end Go.Proofs
end
section
set_option linter.unusedVariables false
set_option linter.unusedSimpArgs false
set_option maxRecDepth 100000
set_option maxHeartbeats 800000
namespace Go.Proofs
open Go.TL
attribute [local irreducible] Go.TL.T Go.TL.TO Go.TL.TQ
theorem c_ref15_SignWish (k : Bytes) (w : Wish) (hk : k.length ≤ 1000000000) : Cv Tryz.prog 21 #[.string (str k), wishV w] [] (.tuple #[wishV (signW k w).1, .int .i64 (signW k w).2]) := by
 refine Ctr.intro Tryz.func21 rfl Tryz.ntmps21 (Nat.le_of_ble_eq_true rfl) fun S0 w0 => ?_
 refine T.seq (T.region ?_)
 refine TO.box (v := .agg #[.int _ _, .int _ _, .int _ _, .int _ _, .int _ _, .int _ _, .int _ _, .int _ _, .string _]) rfl (fun b1 => ?_)
 refine TO.alloc Tryz.zero30 (fun b2 => ?_)
 refine rdx (rd_assign (v := .int _ _) rfl) ?_
 refine TO.nil (TQ.then_normal (T.seq (T.seq (T.region ?_))))
 refine rdx (rd_move (v := .string _) rfl) ?_
 refine rdx (rd_lens' Tryz.under9 rfl) ?_
 refine rdx (rd_neq rfl rfl) ?_
 refine rdx (rd_move (v := .bool _) rfl) ?_
 refine TO.decide (s := 9) rfl (fun h3 => ?_) (fun h3 => ?_)
 ·try simp only [nrm] at h3
  refine TO.guard_false (s := 9) (b' := true) rfl rfl nofun ?_
  refine TO.guard_false (s := 9) (b' := true) rfl rfl nofun ?_
  refine TO.guard_false (s := 9) (b' := true) rfl rfl nofun ?_
  refine rdx (rd_pick_true (v := .bool _) rfl rfl) ?_
  refine TO.nil (TQ.then_normal ?_)
  refine T.cond_true rfl ?_
  refine T.seq (T.region ?_)
  refine rdx (rd_build (cs := [.int _ _, .int _ _, .int _ _, .int _ _, .int _ _, .int _ _, .int _ _, .int _ _, .string _]) Tryz.places30 Tryz.zero30 rfl rfl) ?_
  refine TO.store0 (cells' := #[.int _ _, .int _ _, .int _ _, .int _ _, .int _ _, .int _ _, .int _ _, .int _ _, .string _]) Tryz.size30 rfl (v := .agg #[.int _ _, .int _ _, .int _ _, .int _ _, .int _ _, .int _ _, .int _ _, .int _ _, .string _]) rfl rfl rfl (Nat.le_of_ble_eq_true rfl) rfl ?_
  refine rdx (rd_assign (v := .int _ _) rfl) ?_
  refine TO.nil (TQ.then_normal (T.ret (TQ.then_ret ?_)))
  refine TQ.value ?_ (res2 Tryz.results21 (Res.cells (cs := #[.int _ _, .int _ _, .int _ _, .int _ _, .int _ _, .int _ _, .int _ _, .int _ _, .string _]) Tryz.agg30 rfl (Has.own 0 rfl) rfl rfl) (Res.tmp (v := .int _ _) rfl)) _ (.inl rfl)
  rw [signW, if_neg (by rintro ⟨e1, e2⟩; first | omega | simp_all)]; rfl
 try simp only [nrm] at h3
 refine TO.guard_true (s := 9) rfl rfl ?_
 refine rdx (rd_load_agg (cs := #[.int _ _, .int _ _, .int _ _, .int _ _, .int _ _, .int _ _, .int _ _, .int _ _, .string _]) Tryz.agg30 rfl (Has.own 1 rfl) rfl rfl) ?_
 refine TO.guard_true (s := 9) rfl rfl ?_
 refine TO.fn Tryz.enters55 (c_ref15_wish _) rfl Reads0 ?_
 refine TO.guard_true (s := 9) rfl rfl ?_
 refine rdx (rd_not rfl) ?_
 refine rdx (rd_pick_false (v := .bool _) rfl rfl) ?_
 refine TO.nil (TQ.then_normal ?_)
 refine T.cond rfl (fun h4 => ?_) (fun h4 => ?_)
 ·try simp only [nrm] at h4
  refine T.seq (T.region ?_)
  refine rdx (rd_build (cs := [.int _ _, .int _ _, .int _ _, .int _ _, .int _ _, .int _ _, .int _ _, .int _ _, .string _]) Tryz.places30 Tryz.zero30 rfl rfl) ?_
  refine TO.store0 (cells' := #[.int _ _, .int _ _, .int _ _, .int _ _, .int _ _, .int _ _, .int _ _, .int _ _, .string _]) Tryz.size30 rfl (v := .agg #[.int _ _, .int _ _, .int _ _, .int _ _, .int _ _, .int _ _, .int _ _, .int _ _, .string _]) rfl rfl rfl (Nat.le_of_ble_eq_true rfl) rfl ?_
  refine rdx (rd_assign (v := .int _ _) rfl) ?_
  refine TO.nil (TQ.then_normal (T.ret (TQ.then_ret ?_)))
  refine TQ.value ?_ (res2 Tryz.results21 (Res.cells (cs := #[.int _ _, .int _ _, .int _ _, .int _ _, .int _ _, .int _ _, .int _ _, .int _ _, .string _]) Tryz.agg30 rfl (Has.own 0 rfl) rfl rfl) (Res.tmp (v := .int _ _) rfl)) _ (.inl rfl)
  rw [signW, if_neg (by rintro ⟨e1, e2⟩; first | omega | simp_all)]; rfl
 try simp only [nrm] at h4
 refine T.skip (TQ.then_normal (T.seq (T.region ?_)))
 refine rdx (rd_move (v := .string _) rfl) ?_
 refine rdx (rd_load_agg (cs := #[.int _ _, .int _ _, .int _ _, .int _ _, .int _ _, .int _ _, .int _ _, .int _ _, .string _]) Tryz.agg30 rfl (Has.own 1 rfl) rfl rfl) ?_
 refine TO.fn Tryz.enters35 (c_ref15_WishContent _) rfl Reads0 ?_
 refine TO.fn Tryz.enters58 (c_ref15_Seal _ _ (by first | omega | exact wishText_le _ | exact proxyText_le _ | exact puts3_le _ _ _ | (simp only [List.length_append, List.length_cons, List.length_nil, sha_len, leafOf_len, nodeOf_len, sealOf_len, List.length_take, List.length_drop]; omega) | (rw [keyB_len]; omega)) (by first | omega | exact wishText_le _ | exact proxyText_le _ | exact puts3_le _ _ _ | (simp only [List.length_append, List.length_cons, List.length_nil, sha_len, leafOf_len, nodeOf_len, sealOf_len, List.length_take, List.length_drop]; omega) | (rw [keyB_len]; omega))) rfl Reads0 ?_
 refine rdx (rd_fieldAddr Tryz.field30_6 rfl) ?_
 refine TO.front1 ?_
 refine TO.store0 (cells' := #[.int _ _, .int _ _, .int _ _, .int _ _, .int _ _, .int _ _, .int _ _, .int _ _, .string _]) Tryz.size9 rfl (v := .string _) rfl rfl rfl (Nat.le_of_ble_eq_true rfl) rfl ?_
 refine TO.nil (TQ.then_normal (T.seq (T.region ?_)))
 refine rdx (rd_load_agg (cs := #[.int _ _, .int _ _, .int _ _, .int _ _, .int _ _, .int _ _, .int _ _, .int _ _, .string _]) Tryz.agg30 rfl (Has.own 0 rfl) rfl rfl) ?_
 refine TO.front1 ?_
 refine TO.store0 (cells' := #[.int _ _, .int _ _, .int _ _, .int _ _, .int _ _, .int _ _, .int _ _, .int _ _, .string _]) Tryz.size30 rfl (v := .agg #[.int _ _, .int _ _, .int _ _, .int _ _, .int _ _, .int _ _, .int _ _, .int _ _, .string _]) rfl rfl rfl (Nat.le_of_ble_eq_true rfl) rfl ?_
 refine rdx (rd_assign (v := .int _ _) rfl) ?_
 refine TO.nil (TQ.then_normal (T.ret ?_))
 refine TQ.value ?_ (res2 Tryz.results21 (Res.cells (cs := #[.int _ _, .int _ _, .int _ _, .int _ _, .int _ _, .int _ _, .int _ _, .int _ _, .string _]) Tryz.agg30 rfl (Has.own 0 rfl) rfl rfl) (Res.tmp (v := .int _ _) rfl)) _ (.inl rfl)
 rw [signW, if_pos ⟨by omega, by simp_all⟩]; rfl
theorem c_ref15_SignProxy (k : Bytes) (w : Proxy) (hk : k.length ≤ 1000000000) : Cv Tryz.prog 23 #[.string (str k), proxyV w] [] (.tuple #[proxyV (signP k w).1, .int .i64 (signP k w).2]) := by
 refine Ctr.intro Tryz.func23 rfl Tryz.ntmps23 (Nat.le_of_ble_eq_true rfl) fun S0 w0 => ?_
 refine T.seq (T.region ?_)
 refine TO.box (v := .agg #[.int _ _, .int _ _, .int _ _, .int _ _, .int _ _, .int _ _, .string _]) rfl (fun b1 => ?_)
 refine TO.alloc Tryz.zero40 (fun b2 => ?_)
 refine rdx (rd_assign (v := .int _ _) rfl) ?_
 refine TO.nil (TQ.then_normal (T.seq (T.seq (T.region ?_))))
 refine rdx (rd_move (v := .string _) rfl) ?_
 refine rdx (rd_lens' Tryz.under9 rfl) ?_
 refine rdx (rd_neq rfl rfl) ?_
 refine rdx (rd_move (v := .bool _) rfl) ?_
 refine TO.decide (s := 9) rfl (fun h3 => ?_) (fun h3 => ?_)
 ·try simp only [nrm] at h3
  refine TO.guard_false (s := 9) (b' := true) rfl rfl nofun ?_
  refine TO.guard_false (s := 9) (b' := true) rfl rfl nofun ?_
  refine TO.guard_false (s := 9) (b' := true) rfl rfl nofun ?_
  refine rdx (rd_pick_true (v := .bool _) rfl rfl) ?_
  refine TO.nil (TQ.then_normal ?_)
  refine T.cond_true rfl ?_
  refine T.seq (T.region ?_)
  refine rdx (rd_build (cs := [.int _ _, .int _ _, .int _ _, .int _ _, .int _ _, .int _ _, .string _]) Tryz.places40 Tryz.zero40 rfl rfl) ?_
  refine TO.store0 (cells' := #[.int _ _, .int _ _, .int _ _, .int _ _, .int _ _, .int _ _, .string _]) Tryz.size40 rfl (v := .agg #[.int _ _, .int _ _, .int _ _, .int _ _, .int _ _, .int _ _, .string _]) rfl rfl rfl (Nat.le_of_ble_eq_true rfl) rfl ?_
  refine rdx (rd_assign (v := .int _ _) rfl) ?_
  refine TO.nil (TQ.then_normal (T.ret (TQ.then_ret ?_)))
  refine TQ.value ?_ (res2 Tryz.results23 (Res.cells (cs := #[.int _ _, .int _ _, .int _ _, .int _ _, .int _ _, .int _ _, .string _]) Tryz.agg40 rfl (Has.own 0 rfl) rfl rfl) (Res.tmp (v := .int _ _) rfl)) _ (.inl rfl)
  rw [signP, if_neg (by rintro ⟨e1, e2⟩; first | omega | simp_all)]; rfl
 try simp only [nrm] at h3
 refine TO.guard_true (s := 9) rfl rfl ?_
 refine rdx (rd_load_agg (cs := #[.int _ _, .int _ _, .int _ _, .int _ _, .int _ _, .int _ _, .string _]) Tryz.agg40 rfl (Has.own 1 rfl) rfl rfl) ?_
 refine TO.guard_true (s := 9) rfl rfl ?_
 refine TO.fn Tryz.enters56 (c_ref15_proxy _) rfl Reads0 ?_
 refine TO.guard_true (s := 9) rfl rfl ?_
 refine rdx (rd_not rfl) ?_
 refine rdx (rd_pick_false (v := .bool _) rfl rfl) ?_
 refine TO.nil (TQ.then_normal ?_)
 refine T.cond rfl (fun h4 => ?_) (fun h4 => ?_)
 ·try simp only [nrm] at h4
  refine T.seq (T.region ?_)
  refine rdx (rd_build (cs := [.int _ _, .int _ _, .int _ _, .int _ _, .int _ _, .int _ _, .string _]) Tryz.places40 Tryz.zero40 rfl rfl) ?_
  refine TO.store0 (cells' := #[.int _ _, .int _ _, .int _ _, .int _ _, .int _ _, .int _ _, .string _]) Tryz.size40 rfl (v := .agg #[.int _ _, .int _ _, .int _ _, .int _ _, .int _ _, .int _ _, .string _]) rfl rfl rfl (Nat.le_of_ble_eq_true rfl) rfl ?_
  refine rdx (rd_assign (v := .int _ _) rfl) ?_
  refine TO.nil (TQ.then_normal (T.ret (TQ.then_ret ?_)))
  refine TQ.value ?_ (res2 Tryz.results23 (Res.cells (cs := #[.int _ _, .int _ _, .int _ _, .int _ _, .int _ _, .int _ _, .string _]) Tryz.agg40 rfl (Has.own 0 rfl) rfl rfl) (Res.tmp (v := .int _ _) rfl)) _ (.inl rfl)
  rw [signP, if_neg (by rintro ⟨e1, e2⟩; first | omega | simp_all)]; rfl
 try simp only [nrm] at h4
 refine T.skip (TQ.then_normal (T.seq (T.region ?_)))
 refine rdx (rd_move (v := .string _) rfl) ?_
 refine rdx (rd_load_agg (cs := #[.int _ _, .int _ _, .int _ _, .int _ _, .int _ _, .int _ _, .string _]) Tryz.agg40 rfl (Has.own 1 rfl) rfl rfl) ?_
 refine TO.fn Tryz.enters36 (c_ref15_ProxyContent _) rfl Reads0 ?_
 refine TO.fn Tryz.enters58 (c_ref15_Seal _ _ (by first | omega | exact wishText_le _ | exact proxyText_le _ | exact puts3_le _ _ _ | (simp only [List.length_append, List.length_cons, List.length_nil, sha_len, leafOf_len, nodeOf_len, sealOf_len, List.length_take, List.length_drop]; omega) | (rw [keyB_len]; omega)) (by first | omega | exact wishText_le _ | exact proxyText_le _ | exact puts3_le _ _ _ | (simp only [List.length_append, List.length_cons, List.length_nil, sha_len, leafOf_len, nodeOf_len, sealOf_len, List.length_take, List.length_drop]; omega) | (rw [keyB_len]; omega))) rfl Reads0 ?_
 refine rdx (rd_fieldAddr Tryz.field40_4 rfl) ?_
 refine TO.front1 ?_
 refine TO.store0 (cells' := #[.int _ _, .int _ _, .int _ _, .int _ _, .int _ _, .int _ _, .string _]) Tryz.size9 rfl (v := .string _) rfl rfl rfl (Nat.le_of_ble_eq_true rfl) rfl ?_
 refine TO.nil (TQ.then_normal (T.seq (T.region ?_)))
 refine rdx (rd_load_agg (cs := #[.int _ _, .int _ _, .int _ _, .int _ _, .int _ _, .int _ _, .string _]) Tryz.agg40 rfl (Has.own 0 rfl) rfl rfl) ?_
 refine TO.front1 ?_
 refine TO.store0 (cells' := #[.int _ _, .int _ _, .int _ _, .int _ _, .int _ _, .int _ _, .string _]) Tryz.size40 rfl (v := .agg #[.int _ _, .int _ _, .int _ _, .int _ _, .int _ _, .int _ _, .string _]) rfl rfl rfl (Nat.le_of_ble_eq_true rfl) rfl ?_
 refine rdx (rd_assign (v := .int _ _) rfl) ?_
 refine TO.nil (TQ.then_normal (T.ret ?_))
 refine TQ.value ?_ (res2 Tryz.results23 (Res.cells (cs := #[.int _ _, .int _ _, .int _ _, .int _ _, .int _ _, .int _ _, .string _]) Tryz.agg40 rfl (Has.own 0 rfl) rfl rfl) (Res.tmp (v := .int _ _) rfl)) _ (.inl rfl)
 rw [signP, if_pos ⟨by omega, by simp_all⟩]; rfl
end Go.Proofs
end
section
set_option linter.unusedVariables false
set_option linter.unusedSimpArgs false
set_option maxRecDepth 100000
set_option maxHeartbeats 800000
namespace Go.Proofs
open Go.TL
attribute [local irreducible] Go.TL.T Go.TL.TO Go.TL.TQ
theorem c_ref15_Key (h : Int) : Cv Tryz.prog 19 #[.int .i64 h] [] (.string (str (keyB h))) := by
 refine Ctr.intro Tryz.func19 rfl Tryz.ntmps19 (Nat.le_of_ble_eq_true rfl) fun S0 w0 => ?_
 refine T.seq (T.region ?_)
 refine rdx (rd_assign (v := .string _) rfl) ?_
 refine TO.nil (TQ.then_normal (T.seq (T.region ?_)))
 refine TO.make (k := 32) Tryz.trow5 Tryz.zero5 Tryz.under62 rfl rfl rfl (by decide) (by decide) (fun b1 => ?_)
 refine rdx (rd_assign (v := .slice _ _ _) rfl) ?_
 refine TO.nil (TQ.then_normal (T.seq (T.seq (T.region ?_))))
 refine rdx (rd_assign (v := .int _ _) rfl) ?_
 refine TO.nil (TQ.then_normal (T.block ?_))
 refine T.loop1 [0, 3] (fun (k : Nat) => [(4, .int .i64 (k : Nat))]) (fun (k : Nat) => [own b1 (List.replicate k (Value.int .u8 ((UInt8.ofNat (h % 256).toNat).toNat : Int)) ++ List.replicate (32 - k) (Value.int .u8 0)).toArray 5]) (fun (k : Nat) => k ≤ 32) (fun (k : Nat) => 32 - k) (0) (Nat.zero_le _) (And.intro (rfl) (trivial)) (fun _ _ h => h) fun k g0 hx0 => ?_
 refine T.seq (T.seq (T.region ?_))
 refine rdx (rd_move (v := .int _ _) rfl) ?_
 refine rdx (rd_move (v := .slice _ _ _) rfl) ?_
 refine rdx (rd_lensl Tryz.under62 rfl) ?_
 refine rdx (rd_lss rfl rfl) ?_
 refine TO.nil (TQ.then_normal ?_)
 refine T.cond_ft rfl (fun h2 => ?_) (fun h2 => ?_)
 ·try simp only [nrm] at h2
  refine T.exit (TQ.then_exit (TQ.then_exit (TQ.block_out (TQ.then_normal (T.seq (T.region ?_))))))
  refine rdx (rd_move (v := .slice _ _ _) rfl) ?_
  refine TO.torow0 1 32 (by simp; omega) (by decide) ?_
  refine TO.row_eq (cs' := bytesC (keyB h)) rfl (by (obtain rfl : k = 32 := by omega); rfl) ?_
  refine rdx (rd_row_str Tryz.under62 Tryz.under5 Tryz.under9 rfl (Has.own 0 rfl)) ?_
  refine rdx (rd_assign (v := .string _) rfl) ?_
  refine TO.nil (TQ.then_normal (T.ret ?_))
  refine TQ.value ?_ (res1 Tryz.results19 (Res.tmp (v := .string _) rfl)) _ (.inl rfl)
  rfl
 try simp only [nrm] at h2
 refine T.skip (TQ.then_normal (T.seq (T.block (T.region ?_))))
 refine rdx (rd_move (v := .slice _ _ _) rfl) ?_
 refine rdx (rd_move (v := .int _ _) rfl) ?_
 refine rdx (rd_move (v := .int _ _) rfl) ?_
 refine rdx (rd_convert Tryz.isome3 Tryz.under5 rfl (show IntKind.u8.wrap h = ((UInt8.ofNat (h % 256).toNat).toNat : Int) from by rw [wrap_u8, UInt8.toNat_ofNat']; omega)) ?_
 refine rdx (rd_indexAddr (k := k) Tryz.under62 Tryz.size5 rfl rfl rfl (by omega)) ?_
 refine TO.store0 (cells' := (List.replicate (k + 1) (Value.int .u8 ((UInt8.ofNat (h % 256).toNat).toNat : Int)) ++ List.replicate (32 - (k + 1)) (Value.int .u8 0)).toArray) (v := .int .u8 _) Tryz.size5 rfl rfl rfl (by rw [Nat.zero_add, Nat.mul_one]; exact over_rep (by omega)) (by simp; omega) rfl ?_
 refine TO.nil (TQ.block_normal (TQ.then_normal (T.region ?_)))
 refine rdx (rd_move (v := .int _ _) rfl) ?_
 refine rdx (rd_add rfl rfl (w64 (by omega) (by omega))) ?_
 refine rdx (rd_assign (v := .int _ _) rfl) ?_
 refine TO.nil ?_
 refine TQ.againk (k + 1) ?_ ?_ (And.intro (rfl) (trivial)) (And.intro (rfl) (And.intro (rfl) (trivial))) (fun _ _ h => h)
 ·first | omega | (dsimp only; omega)
 ·first | omega | (dsimp only; omega)
theorem c_ref15_Keys  : Ctr Tryz.prog 11 #[] [] [] (γ := Option Addr × Nat) (fun x => True) (fun x => .slice x.1 10 x.2) (fun x => [row 9 1 x.1 10 x.2 ((keysN 10).flatMap eStr)]) := by
 refine Ctr.intro Tryz.func11 rfl Tryz.ntmps11 (Nat.le_of_ble_eq_true rfl) fun S0 w0 => ?_
 refine T.seq (T.region ?_)
 refine rdx (rd_assign (v := .slice none 0 0) rfl) ?_
 refine TO.newrow 9 1 ?_
 refine TO.nil (TQ.then_normal (T.seq (T.region ?_)))
 refine rdx (rd_assign (v := .slice none 0 0) rfl) ?_
 refine TO.newrow 9 1 ?_
 refine TO.nil (TQ.then_normal (T.seq (T.seq (T.region ?_))))
 refine rdx (rd_assign (v := .int _ _) rfl) ?_
 refine TO.nil (TQ.then_normal (T.block ?_))
 refine T.loop3 [] (fun (A1 : Option Addr) (cap1 : Nat) (k : Nat) => [(1, .slice A1 k cap1), (2, .int .i64 (k : Nat))]) (fun (A1 : Option Addr) (cap1 : Nat) (k : Nat) => [row 9 1 A1 k cap1 ((keysN k).flatMap eStr)]) (fun (A1 : Option Addr) (cap1 : Nat) (k : Nat) => k ≤ 10) (fun (A1 : Option Addr) (cap1 : Nat) (k : Nat) => 10 - k) (none) (0) (0) (Nat.zero_le _) (And.intro (rfl) (And.intro (rfl) (trivial))) (fun _ _ h => h) fun A1 cap1 k g0 hx0 => ?_
 refine T.seq (T.seq (T.region ?_))
 refine rdx (rd_move (v := .int _ _) rfl) ?_
 refine rdx (rd_lss rfl rfl) ?_
 refine TO.nil (TQ.then_normal ?_)
 refine T.cond_ft rfl (fun h3 => ?_) (fun h3 => ?_)
 ·try simp only [nrm] at h3
  refine T.exit (TQ.then_exit (TQ.then_exit (TQ.block_out (TQ.then_normal (T.seq (T.region ?_))))))
  refine rdx (rd_move (v := .slice _ _ _) rfl) ?_
  refine rdx (rd_assign (v := .slice _ _ _) rfl) ?_
  refine TO.nil (TQ.then_normal (T.ret ?_))
  refine TQ.done ((A1, cap1)) (trivial) ?_ (fun _ _ => seps_row 0 rfl (by omega) (by rw [show k = 10 by omega])) (res1 Tryz.results11 (Res.tmp (v := .slice _ _ _) rfl)) _ (.inl rfl)
  rw [show k = 10 by omega]
 try simp only [nrm] at h3
 refine T.skip (TQ.then_normal (T.seq (T.block (T.region ?_))))
 refine rdx (rd_move (v := .slice _ _ _) rfl) ?_
 refine rdx (rd_move (v := .int _ _) rfl) ?_
 refine TO.fn Tryz.enters19 (c_ref15_Key _) rfl Reads0 ?_
 refine TO.buildS (cs := [.string _]) Tryz.under32 Tryz.size9 Tryz.zero9 (Nat.le_of_ble_eq_true rfl) rfl (fun b4 => ?_)
 refine TO.front1 ?_
 refine TO.app Tryz.trow9 Tryz.under32 (.inl ⟨_, Tryz.under32⟩) rfl rfl (Src.own1 1 rfl rfl) rfl rfl (by omega) (fun A5 c6 hc7 => ?_)
 refine TO.row_eq (cs' := (keysN (k + 1)).flatMap eStr) rfl (by rw [keysN_succ, List.flatMap_append]; rfl) ?_
 refine rdx (rd_assign (v := .slice _ _ _) rfl) ?_
 refine TO.nil (TQ.block_normal (TQ.then_normal (T.region ?_)))
 refine rdx (rd_move (v := .int _ _) rfl) ?_
 refine rdx (rd_add rfl rfl (w64 (by omega) (by omega))) ?_
 refine rdx (rd_assign (v := .int _ _) rfl) ?_
 refine TO.nil ?_
 refine TQ.againk (A5, c6, k + 1) ?_ ?_ (And.intro (rfl) (And.intro (rfl) (trivial))) (trivial) (fun _ _ h => h.sel (js := [0, 2]) (by decide))
 ·first | omega | (dsimp only; omega)
 ·first | omega | (dsimp only; omega)
end Go.Proofs
end
