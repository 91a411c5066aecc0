/- What the proof of WishTextsMatchReference leans on, part 4: a small program logic, plain facts, walks of functions. No statement of the seat is proved here. -/
import Derived.Test.YtlcbpicpociipaaGreatDoorB3
import Derived.Test.YtlcbpicpociipaaGreatDoorProg
section
/- Regions that draw their order, in which operations (append, store) turn pieces that the region has made. No program is named here. -/
set_option linter.unusedVariables false
set_option linter.unusedSimpArgs false
namespace Go.TL
section
variable {γ : Type}
def mixLy (co : Nat → Option Nat) (pr : Nat → Nat → Bool) (sp : List (Spec γ)) (L0 : List Asn) (m j : Nat) (ρ : Nat → γ) (X : Nat → Asn) : List Asn :=
  (List.range m).map (fun p => bif (pr j p && (co p).isNone) then (sp.getD p dspec).c ρ else X p) ++ L0
def fullLy (co : Nat → Option Nat) (sp : List (Spec γ)) (L0 : List Asn) (m : Nat) (ρ : Nat → γ) : List Asn := (List.range m).map (fun p => bif (co p).isNone then (sp.getD p dspec).c ρ else emp) ++ L0
end
section
variable {P : Program} {r : Option Nat} {n : Nat} {ds : List Deferred} {S0 : Nat → Prop} {w0 : World} {G L0 : List Asn} {f0 : Env} {Q : Exit → Act → World → Prop} {ops : Array Oper} {γ : Type} {m : Nat} {wr : Nat → Option Nat} {pr : Nat → Nat → Bool} {R : List Nat} {co : Nat → Option Nat}
def ObPy (P : Program) (r : Option Nat) (n : Nat) (ds : List Deferred) (S0 : Nat → Prop) (w0 : World) (G : List Asn) (ops : Array Oper) (m : Nat) (wr : Nat → Option Nat) (pr : Nat → Nat → Bool) (co : Nat → Option Nat) (L0 : List Asn) (f0 : Env) (sp : List (Spec γ)) (j : Nat) (o : Oper) (s : Spec γ) : Prop :=
  ∀ (ρ : Nat → γ) (g : Env) (X : Nat → Asn) (Q' : Exit → Act → World → Prop), TO P r n ds S0 w0 G ops Q' [] (mixLy co pr sp L0 m j ρ X) (put (mixE wr pr sp f0 j ρ g) o.dst (s.v ρ)) → TO P r n ds S0 w0 G ops Q' [o] (mixLy co pr sp L0 m j ρ X) (mixE wr pr sp f0 j ρ g)
def ObRy (P : Program) (r : Option Nat) (n : Nat) (ds : List Deferred) (S0 : Nat → Prop) (w0 : World) (G : List Asn) (ops : Array Oper) (m : Nat) (wr : Nat → Option Nat) (pr : Nat → Nat → Bool) (co : Nat → Option Nat) (L0 : List Asn) (f0 : Env) (sp : List (Spec γ)) (j : Nat) (o : Oper) (s : Spec γ) : Prop :=
  ∀ (ρ : Nat → γ) (g : Env) (X : Nat → Asn) (Q' : Exit → Act → World → Prop), (∀ x, TO P r n ds S0 w0 G ops Q' [] (s.c (gupd ρ j x) :: mixLy co pr sp L0 m j ρ X) (put (mixE wr pr sp f0 j ρ g) o.dst (s.v (gupd ρ j x)))) → TO P r n ds S0 w0 G ops Q' [o] (mixLy co pr sp L0 m j ρ X) (mixE wr pr sp f0 j ρ g)
def ObTy (P : Program) (r : Option Nat) (n : Nat) (ds : List Deferred) (S0 : Nat → Prop) (w0 : World) (G : List Asn) (ops : Array Oper) (m : Nat) (wr : Nat → Option Nat) (pr : Nat → Nat → Bool) (co : Nat → Option Nat) (L0 : List Asn) (f0 : Env) (sp : List (Spec γ)) (i j : Nat) (o : Oper) (s : Spec γ) : Prop :=
  ∀ (ρ : Nat → γ) (g : Env) (X : Nat → Asn) (Q' : Exit → Act → World → Prop), X i = (sp.getD i dspec).c ρ → (∀ x, TO P r n ds S0 w0 G ops Q' [] (s.c (gupd ρ j x) :: mixLy co pr sp L0 m j ρ (fun p => bif Nat.beq p i then emp else X p)) (put (mixE wr pr sp f0 j ρ g) o.dst (s.v (gupd ρ j x)))) → TO P r n ds S0 w0 G ops Q' [o] (mixLy co pr sp L0 m j ρ X) (mixE wr pr sp f0 j ρ g)
structure Owedy (P : Program) (r : Option Nat) (n : Nat) (ds : List Deferred) (S0 : Nat → Prop) (w0 : World) (G : List Asn) (ops : Array Oper) (m : Nat) (wr : Nat → Option Nat) (pr : Nat → Nat → Bool) (co : Nat → Option Nat) (R : List Nat) (L0 : List Asn) (f0 : Env) (sp : List (Spec γ)) (j : Nat) (s : Spec γ) : Prop where
  ind : Ind pr R j s
  ob : ∃ o, ops[j]? = some o ∧ ((ObPy P r n ds S0 w0 G ops m wr pr co L0 f0 sp j o s ∧ j ∉ R ∧ (∀ ρ, s.c ρ = emp) ∧ ∀ i, co i ≠ some j) ∨ (ObRy P r n ds S0 w0 G ops m wr pr co L0 f0 sp j o s ∧ j ∈ R ∧ ∀ i, co i ≠ some j) ∨ (∃ i, co i = some j ∧ (∀ i', co i' = some j → i' = i) ∧ ObTy P r n ds S0 w0 G ops m wr pr co L0 f0 sp i j o s ∧ j ∈ R))
def DRy (P : Program) (r : Option Nat) (n : Nat) (ds : List Deferred) (S0 : Nat → Prop) (w0 : World) (G : List Asn) (Q : Exit → Act → World → Prop) (ops : Array Oper) (m : Nat) (wr : Nat → Option Nat) (pr : Nat → Nat → Bool) (co : Nat → Option Nat) (R : List Nat) (L0 : List Asn) (f0 : Env) (j : Nat) (sp : List (Spec γ)) : Prop :=
  sp.length = j ∧ ∃ sp', sp.length + sp'.length = m ∧ (∀ k, k < sp'.length → Owedy P r n ds S0 w0 G ops m wr pr co R L0 f0 (sp ++ sp'.take k) (sp.length + k) (sp'.getD k dspec)) ∧
    ∀ ρ, TO P r n ds S0 w0 G ops Q (ops.toList.drop m) (fullLy co (sp ++ sp') L0 m ρ) (fullE wr (sp ++ sp') f0 ρ)
theorem DRy.step {j : Nat} {sp : List (Spec γ)} (s : Spec γ) (hsp : sp.length = j) (ho : Owedy P r n ds S0 w0 G ops m wr pr co R L0 f0 sp j s) (h : DRy P r n ds S0 w0 G Q ops m wr pr co R L0 f0 (j + 1) (sp ++ [s])) : DRy P r n ds S0 w0 G Q ops m wr pr co R L0 f0 j sp := by
  obtain ⟨h1, sp', h2, h3, h4⟩ := h
  refine ⟨hsp, s :: sp', by simp at h2 ⊢; omega, fun k hk => ?_, fun ρ => by have := h4 ρ; simpa using this⟩
  cases k with
  | zero => simp only [List.take_zero, List.append_nil, Nat.add_zero, hsp]; exact ho
  | succ k =>
    have := h3 k (by simpa using hk)
    simp only [List.length_append, List.length_cons, List.length_nil] at this
    simp only [List.take_succ_cons]
    rw [show sp.length + (k + 1) = sp.length + (0 + 1) + k from by omega, show sp ++ s :: List.take k sp' = sp ++ [s] ++ List.take k sp' from by simp]
    simpa using this
theorem DRy.done {sp : List (Spec γ)} (hsp : sp.length = m) (h : ∀ ρ, TO P r n ds S0 w0 G ops Q (ops.toList.drop m) (fullLy co sp L0 m ρ) (fullE wr sp f0 ρ)) : DRy P r n ds S0 w0 G Q ops m wr pr co R L0 f0 m sp :=
  ⟨hsp, [], by simpa using hsp, fun k hk => by simp at hk, fun ρ => by simpa using h ρ⟩
end
section
variable {P : Program} {r : Option Nat} {n : Nat} {ds : List Deferred} {S0 : Nat → Prop} {w0 : World} {G L0 : List Asn} {f0 : Env} {Q : Exit → Act → World → Prop} {ops : Array Oper} {m : Nat} {wrl : List (Nat × Nat)} {prl R : List Nat} {col : List (Nat × Nat)}
def DY (P : Program) (r : Option Nat) (n : Nat) (ds : List Deferred) (S0 : Nat → Prop) (w0 : World) (G : List Asn) (Q : Exit → Act → World → Prop) (ops : Array Oper) (m : Nat) (wrl : List (Nat × Nat)) (prl R : List Nat) (col : List (Nat × Nat)) (L0 : List Asn) (f0 : Env) (j : Nat) (F : Nat → (Nat → Gh) → Value) (C : Nat → (Nat → Gh) → Asn) : Prop :=
  DrawOk ops m (wrOf wrl) (prOf prl) → DRy P r n ds S0 w0 G Q ops m (wrOf wrl) (prOf prl) (wrOf col) R L0 f0 j (gspec F C j)
theorem fmLen {α : Type} {e : α → List Value} {sz : Nat} (he : ∀ x, (e x).length = sz) : ∀ (xs : List α), (xs.flatMap e).length = xs.length * sz
  | [] => by simp
  | x :: xs => by rw [List.flatMap_cons, List.length_append, he, fmLen he xs, List.length_cons, Nat.add_mul]; omega
theorem wrOf_mem {l : List (Nat × Nat)} {i j : Nat} (h : wrOf l i = some j) : (i, j) ∈ l := by
  simp only [wrOf, Option.map_eq_some_iff] at h
  obtain ⟨⟨a, b⟩, h1, rfl⟩ := h
  have h2 := List.find?_some h1
  simp only [beq_iff_eq] at h2
  subst h2
  exact List.mem_of_find?_eq_some h1
def ncB (col : List (Nat × Nat)) (j : Nat) : Bool := col.all fun x => !(Nat.beq x.2 j)
theorem ncB_of {j : Nat} (h : ncB col j = true) (i : Nat) : wrOf col i ≠ some j := fun e => by
  have := List.all_eq_true.1 h _ (wrOf_mem e)
  simp at this
theorem DY.put {j : Nat} {F : Nat → (Nat → Gh) → Value} {C : Nat → (Nat → Gh) → Asn} {o : Oper} (hj : ops[j]? = some o) (hR : (R.contains j || !(ncB col j)) = false) (v : Value)
    (ho : ∀ (ρ : Nat → Gh) (g : Env) (M : List Asn) (Q' : Exit → Act → World → Prop), TO P r n ds S0 w0 G ops Q' [] (M ++ L0) (put (mixG wrl prl F f0 j ρ g) o.dst v) → TO P r n ds S0 w0 G ops Q' [o] (M ++ L0) (mixG wrl prl F f0 j ρ g))
    (h : DY P r n ds S0 w0 G Q ops m wrl prl R col L0 f0 (j + 1) (updF F j (fun _ => v)) (updF C j (fun _ => emp))) : DY P r n ds S0 w0 G Q ops m wrl prl R col L0 f0 j F C := fun hd => by
  rw [Bool.or_eq_false_iff] at hR
  refine DRy.step ⟨fun _ => v, fun _ => emp⟩ (by simp [gspec]) ⟨fun i hi _ _ ρ x => ⟨rfl, rfl⟩, o, hj, .inl ⟨?_, by simpa using hR.1, fun _ => rfl, ncB_of (by simpa using hR.2)⟩⟩ ?_
  · intro ρ g X Q' h'
    rw [mixG_eq hd hj] at h' ⊢
    exact ho ρ g _ Q' h'
  · rw [← gspec_succ]
    exact h hd
theorem DY.new {j : Nat} {F : Nat → (Nat → Gh) → Value} {C : Nat → (Nat → Gh) → Asn} {o : Oper} (hj : ops[j]? = some o) (hR : (R.contains j && ncB col j) = true) (V : Gh → Value) (c : Gh → Asn)
    (ho : ∀ (ρ : Nat → Gh) (g : Env) (M : List Asn) (Q' : Exit → Act → World → Prop), (∀ x : Gh, TO P r n ds S0 w0 G ops Q' [] (c x :: (M ++ L0)) (TL.put (mixG wrl prl F f0 j ρ g) o.dst (V x))) → TO P r n ds S0 w0 G ops Q' [o] (M ++ L0) (mixG wrl prl F f0 j ρ g))
    (h : DY P r n ds S0 w0 G Q ops m wrl prl R col L0 f0 (j + 1) (updF F j (fun ρ => V (ρ j))) (updF C j (fun ρ => c (ρ j)))) : DY P r n ds S0 w0 G Q ops m wrl prl R col L0 f0 j F C := fun hd => by
  rw [Bool.and_eq_true] at hR
  have hg : ∀ (ρ : Nat → Gh) (x : Gh), gupd ρ j x j = x := fun ρ x => by simp [gupd]
  refine DRy.step ⟨fun ρ => V (ρ j), fun ρ => c (ρ j)⟩ (by simp [gspec]) ⟨fun i hi hne _ ρ x => ?_, o, hj, .inr (.inl ⟨?_, by simpa using hR.1, ncB_of hR.2⟩)⟩ ?_
  · have : gupd ρ i x j = ρ j := by simp only [gupd, beq_false (fun e => hne e.symm), _root_.cond_false]
    simp only [this, and_self]
  · intro ρ g X Q' h'
    rw [mixG_eq hd hj] at h' ⊢
    refine ho ρ g _ Q' fun x => ?_
    have := h' x
    simp only [hg] at this
    exact this
  · rw [← gspec_succ]
    exact h hd
/-- An operation that turns the piece that operation i has made. -/
def tuB (col : List (Nat × Nat)) (i j : Nat) : Bool := wrOf col i == some j && col.all fun x => !(Nat.beq x.2 j) || Nat.beq x.1 i
theorem DY.turn {j : Nat} {F : Nat → (Nat → Gh) → Value} {C : Nat → (Nat → Gh) → Asn} {o : Oper} (i : Nat) (hj : ops[j]? = some o) (hR : (R.contains j && tuB col i j && Nat.blt i j && Nat.blt i m) = true) (V : Gh → Value) (c : Gh → Asn)
    (ho : ∀ (ρ : Nat → Gh) (g : Env) (L : List Asn) (Q' : Exit → Act → World → Prop), (∀ X, Has G L0 X → Has G L X) → (∀ x : Gh, TO P r n ds S0 w0 G ops Q' [] (c x :: L) (TL.put (mixG wrl prl F f0 j ρ g) o.dst (V x))) → TO P r n ds S0 w0 G ops Q' [o] (C i ρ :: L) (mixG wrl prl F f0 j ρ g))
    (h : DY P r n ds S0 w0 G Q ops m wrl prl R col L0 f0 (j + 1) (updF F j (fun ρ => V (ρ j))) (updF C j (fun ρ => c (ρ j)))) : DY P r n ds S0 w0 G Q ops m wrl prl R col L0 f0 j F C := fun hd => by
  simp only [Bool.and_eq_true, tuB] at hR
  obtain ⟨⟨⟨hR, hc, hu⟩, hij⟩, him⟩ := hR
  have hij : i < j := Nat.le_of_ble_eq_true hij
  have him : i < m := Nat.le_of_ble_eq_true him
  have hc : wrOf col i = some j := by simpa using hc
  have hg : ∀ (ρ : Nat → Gh) (x : Gh), gupd ρ j x j = x := fun ρ x => by simp [gupd]
  refine DRy.step ⟨fun ρ => V (ρ j), fun ρ => c (ρ j)⟩ (by simp [gspec]) ⟨fun i hi hne _ ρ x => ?_, o, hj, .inr (.inr ⟨i, hc, fun i' h' => ?_, ?_, by simpa using hR⟩)⟩ ?_
  · have : gupd ρ i x j = ρ j := by simp only [gupd, beq_false (fun e => hne e.symm), _root_.cond_false]
    simp only [this, and_self]
  · have := List.all_eq_true.1 hu _ (wrOf_mem h')
    simpa using this
  · intro ρ g X Q' hX h'
    rw [mixG_eq hd hj] at h' ⊢
    rw [gspec_get F C hij] at hX
    have hget : (mixLy (wrOf col) (prOf prl) (gspec F C j) L0 m j ρ X)[i]? = some (C i ρ) := by
      unfold mixLy
      rw [List.getElem?_append_left (by simpa using him)]
      simp only [List.getElem?_map, List.getElem?_range him, Option.map_some, hc, Option.isNone_some, Bool.and_false, _root_.cond_false]
      rw [hX]
    have e4 : (mixLy (wrOf col) (prOf prl) (gspec F C j) L0 m j ρ X).set i emp = mixLy (wrOf col) (prOf prl) (gspec F C j) L0 m j ρ (fun p => bif Nat.beq p i then emp else X p) := by
      unfold mixLy
      rw [List.set_append_left _ _ (by simpa using him)]
      congr 1
      apply List.ext_getElem?
      intro q
      by_cases hq : q < m
      · by_cases e : q = i
        · subst e
          rw [List.getElem?_set]
          simp only [if_true, List.length_map, List.length_range, hq, List.getElem?_map, List.getElem?_range hq, Option.map_some]
          rw [hc]
          simp
        · rw [List.getElem?_set_ne (fun h => e h.symm)]
          simp only [List.getElem?_map, List.getElem?_range hq, Option.map_some, beq_false e, _root_.cond_false]
      · simp [hq]
    have h2 := ho ρ g ((mixLy (wrOf col) (prOf prl) (gspec F C j) L0 m j ρ X).set i emp) Q' (fun Y hY => by
      rw [e4]
      exact hY.appR) (fun x => by
      have := h' x
      simp only [hg] at this
      rw [e4]
      exact this)
    intro w hw
    refine h2 w (hw.conv fun S w hs => ?_)
    exact seps_take i hget (hs.add trivial)
  · rw [← gspec_succ]
    exact h hd
theorem DY.rd {j : Nat} {F : Nat → (Nat → Gh) → Value} {C : Nat → (Nat → Gh) → Asn} {o : Oper} {v : Value} (hj : ops.toList[j]? = some o) (hR : (R.contains j || !(ncB col j)) = false) (hg : o.guard = none)
    (ho : ∀ (ρ : Nat → Gh) (g : Env), Reads P G L0 o (ev n (mixG wrl prl F f0 j ρ g)) v)
    (h : DY P r n ds S0 w0 G Q ops m wrl prl R col L0 f0 (j + 1) (updF F j (fun _ => v)) (updF C j (fun _ => emp))) : DY P r n ds S0 w0 G Q ops m wrl prl R col L0 f0 j F C :=
  DY.put (by rw [← Array.getElem?_toList]; exact hj) hR v (fun ρ g M Q' h' => TO.read hg (ho ρ g).appR h') h
theorem DY.fn {j : Nat} {F : Nat → (Nat → Gh) → Value} {C : Nat → (Nat → Gh) → Asn} {d : Option Tmp} {ty : TypeId} {pos : String} {aft : Array Edge} {v : Value} {q : FuncId} {vs : List Value} {asx : Array Operand} {ats : Array TypeId} {G' : List Asn}
    (hj : ops.toList[j]? = some ⟨d, .call ⟨.value (.func q), asx, ats⟩, ty, pos, aft, none⟩) (hR : (R.contains j || !(ncB col j)) = false) (he : Enters P q) (hc : Cv P q vs.toArray G' v) (ha : ∀ ρ g, asx.toList.map (ev n (mixG wrl prl F f0 j ρ g)) = vs) (hG : ∀ X ∈ G', Has G L0 X)
    (h : DY P r n ds S0 w0 G Q ops m wrl prl R col L0 f0 (j + 1) (updF F j (fun _ => v)) (updF C j (fun _ => emp))) : DY P r n ds S0 w0 G Q ops m wrl prl R col L0 f0 j F C :=
  DY.put (by rw [← Array.getElem?_toList]; exact hj) hR v (fun ρ g M Q' h' => TO.fn he hc (ha ρ g) (fun X hX => (hG X hX).appR) h') h
theorem DY.buildS {j : Nat} {F : Nat → (Nat → Gh) → Value} {C : Nat → (Nat → Gh) → Asn} {d : Option Tmp} {ty : TypeId} {pos : String} {aft : Array Edge} {t e sz k : Nat} {ps : Array (Nat × Operand)} {z : Value} {cs : (Nat → Gh) → List Value} (D : List Nat) (hj : ops.toList[j]? = some ⟨d, .buildSlice t k ps, ty, pos, aft, none⟩) (hR : (R.contains j && ncB col j) = true)
    (ht : P.underlying t = some (.slice e)) (hs : ∀ w, (sizeOf e).run P w = .ok sz w) (hz : TyZero P e z) (hsmall : k * sz ≤ 16777216)
    (hfill : ∀ ρ g, fillM (fun i => some (i * sz, sz)) ((List.range (k * sz)).map (z.cells[· % z.cells.size]!)) 0 (ps.toList.map fun p => (p.1, ev n (mixG wrl prl F f0 j ρ g) p.2)) = some (cs ρ)) (hD : D.all (fun i => prOf prl j i && !(Nat.beq i j)) = true) (hind : ∀ ρ ρ' : Nat → Gh, (∀ i ∈ D, ρ i = ρ' i) → cs ρ = cs ρ')
    (h : DY P r n ds S0 w0 G Q ops m wrl prl R col L0 f0 (j + 1) (updF F j (fun ρ => .slice (some ⟨(ρ j).2, 0, none⟩) k k)) (updF C j (fun ρ => own (ρ j).2 (cs ρ).toArray e))) : DY P r n ds S0 w0 G Q ops m wrl prl R col L0 f0 j F C := fun hd => by
  rw [Bool.and_eq_true] at hR
  have hj' := hj
  rw [Array.getElem?_toList] at hj'
  have hg : ∀ (ρ : Nat → Gh) (x : Gh), gupd ρ j x j = x := fun ρ x => by simp [gupd]
  have hfar : ∀ i, (prOf prl j i = false ∨ i = j) → ∀ (ρ : Nat → Gh) (x : Gh), cs (gupd ρ i x) = cs ρ := fun i hi ρ x => hind _ _ fun q hq => by
    have h1 := List.all_eq_true.1 hD q hq
    rw [Bool.and_eq_true] at h1
    have hne : q ≠ i := by
      rintro rfl
      rcases hi with h2 | h2
      · rw [h2] at h1; cases h1.1
      · subst h2; simp at h1
    simp only [gupd, beq_false hne, _root_.cond_false]
  refine DRy.step ⟨fun ρ => .slice (some ⟨(ρ j).2, 0, none⟩) k k, fun ρ => own (ρ j).2 (cs ρ).toArray e⟩ (by simp [gspec]) ⟨fun i hi hne hpi ρ x => ?_, _, hj', .inr (.inl ⟨?_, by simpa using hR.1, ncB_of hR.2⟩)⟩ ?_
  · have : gupd ρ i x j = ρ j := by simp only [gupd, beq_false (fun e => hne e.symm), _root_.cond_false]
    simp only [this, hfar i (.inl hpi), and_self]
  · intro ρ g X Q' h'
    rw [mixG_eq hd hj'] at h' ⊢
    refine TO.buildS ht hs hz hsmall (hfill ρ g) fun b => ?_
    have := h' (none, b)
    simp only [hg, hfar j (.inr rfl)] at this
    exact this
  · rw [← gspec_succ]
    exact h hd
theorem DY.app {α : Type} {en : α → List Value} {j : Nat} {F : Nat → (Nat → Gh) → Value} {C : Nat → (Nat → Gh) → Asn} {d : Nat} {ty : TypeId} {pos : String} {aft : Array Edge} {t u e sz bytes k c' : Nat} {s x : Operand} {A' : Option Addr} {xs : List α} {cs : List Value} {q : Nat} (i : Nat) (hj : ops.toList[j]? = some ⟨some d, .call ⟨.builtin .append, #[s, x], #[t, u]⟩, ty, pos, aft, none⟩) (hR : (R.contains j && tuB col i j && Nat.blt i j && Nat.blt i m) = true)
    (hr : TyRow P e sz bytes) (ht : P.underlying t = some (.slice e)) (hu : (∃ e', P.underlying u = some (.slice e')) ∨ P.underlying u = some .string) (hC : C i = fun ρ => row e sz (ρ i).1 k (ρ i).2 cs)
    (hs : ∀ ρ g, ev n (mixG wrl prl F f0 j ρ g) s = .slice (ρ i).1 k (ρ i).2) (hx : ∀ ρ g, ev n (mixG wrl prl F f0 j ρ g) x = .slice A' q c') (hq : xs.length = q) (he : ∀ x, (en x).length = sz) (hS : Has G L0 (slc en sz A' xs)) (h1 : (xs.flatMap en).all (·.oneCell') = true) (hbytes : (k + q) * bytes ≤ 140737488355328)
    (h : DY P r n ds S0 w0 G Q ops m wrl prl R col L0 f0 (j + 1) (updF F j (fun ρ => .slice (ρ j).1 (k + q) (ρ j).2)) (updF C j (fun ρ => row e sz (ρ j).1 (k + q) (ρ j).2 (cs ++ xs.flatMap en)))) : DY P r n ds S0 w0 G Q ops m wrl prl R col L0 f0 j F C := by
  subst hq
  exact DY.turn i (by rw [← Array.getElem?_toList]; exact hj) hR (fun x => .slice x.1 (k + xs.length) x.2) (fun x => row e sz x.1 (k + xs.length) x.2 (cs ++ xs.flatMap en)) (fun ρ g L Q' hL h' => by
    rw [hC]
    exact TO.app hr ht hu (hs ρ g) (hx ρ g) (fun _ _ _ hw => Src.ofSlc he (Has.appR (M := [_]) (hL _ hS)) hw) (fmLen he xs) h1 hbytes fun A' cap' _ => h' (A', cap')) h
theorem DY.done {F : Nat → (Nat → Gh) → Value} {C : Nat → (Nat → Gh) → Asn} {l : List Oper} (R' : List Nat) (hl : ops.toList.drop m = l) (hn : R'.Nodup) (hR : R'.all (fun j => Nat.blt j m && (wrOf col j).isNone) = true) (h : ∀ ρ : Nat → Gh, TO P r n ds S0 w0 G ops Q l (R'.map (fun j => C j ρ) ++ L0) (allG wrl F f0 ρ)) : DY P r n ds S0 w0 G Q ops m wrl prl R col L0 f0 m F C := fun hd => by
  refine DRy.done (by simp [gspec]) fun ρ => ?_
  have e : fullE (wrOf wrl) (gspec F C m) f0 ρ = allG wrl F f0 ρ := by
    funext t
    simp only [fullE, allG, wrL_eq]
    cases hw : wrOf wrl t with
    | none => rfl
    | some p => simp only; rw [gspec_get F C (hd.wrm t p hw).1]
  rw [e, hl]
  refine (h ρ).conv fun S w hs => ?_
  unfold fullLy at hs
  obtain ⟨S1, S2, h1, h2, h3, h4, h5⟩ := hs.split
  refine Seps.app h1 h2 h3 ?_ h5
  have := h4.sel hn
  have e2 : sel R' ((List.range m).map fun p => bif (wrOf col p).isNone then ((gspec F C m).getD p dspec).c ρ else emp) = R'.map fun j => C j ρ := by
    unfold sel
    apply List.map_congr_left
    intro j hj
    have h6 := List.all_eq_true.1 hR j hj
    rw [Bool.and_eq_true] at h6
    have hlt : j < m := Nat.le_of_ble_eq_true h6.1
    simp only [List.getD_eq_getElem?_getD, List.getElem?_map, List.getElem?_range, hlt, if_true, Option.map_some, Option.getD_some, h6.2, _root_.cond_true]
    have := gspec_get F C hlt
    simp only [List.getD_eq_getElem?_getD] at this
    rw [this]
  rw [e2] at this
  exact this
theorem Has.cons {G L : List Asn} {A B : Asn} (h : Has G L A) : Has G (B :: L) A := Has.appR (M := [B]) h
end
end Go.TL
end
section
/- What is signed is bound: another wish, or another proxy, under the same seal. Plain laws. No program is named here. -/
set_option linter.unusedVariables false
set_option linter.unusedSimpArgs false
namespace Go.TL
theorem coll_gen {k1 k2 c1 c2 : Bytes} (h1 : k1.length = 32) (h2 : k2.length = 32) (he : sealOf k1 c1 = sealOf k2 c2) (hne : ¬ c1 = c2) : collB (hashed k1 c1) (hashed k2 c2) = true := by
  by_cases e : (1 :: k1 ++ leafOf c1) = (1 :: k2 ++ leafOf c2)
  · have e2 := List.append_inj (List.cons.inj e).2 (by rw [h1, h2])
    have q : collQ (0 :: c1) (0 :: c2) = true := collQ_t (fun h => hne (List.cons.inj h).2) e2.2
    simp only [collB, hashed, List.any_cons, q, Bool.true_or]
  · have q : collQ (1 :: k1 ++ leafOf c1) (1 :: k2 ++ leafOf c2) = true := collQ_t e he
    simp only [collB, hashed, List.any_cons, List.any_nil, q, Bool.or_true, Bool.true_or]
theorem wishText_inj {w v : Wish} (h1 : wishOk w = true) (h2 : wishOk v = true) (h : wishText w = wishText v) (hs : w.sig = v.sig) : w = v := by
  have h3 := puts_inj (l := [1, w.signer, w.holder, w.rlo, w.rhi, w.carrier, w.serial, w.slo, w.shi]) (m := [1, v.signer, v.holder, v.rlo, v.rhi, v.carrier, v.serial, v.slo, v.shi]) rfl (fun n hn => by
    rw [List.mem_cons] at hn
    rcases hn with rfl | hn
    · exact ⟨by decide, by decide⟩
    · exact wishOk_I h1 n hn) (fun n hn => by
    rw [List.mem_cons] at hn
    rcases hn with rfl | hn
    · exact ⟨by decide, by decide⟩
    · exact wishOk_I h2 n hn) h
  cases w
  cases v
  simp_all
theorem Good.sign {w : Wish} {l : List Proxy} {nu t : Int} (g : Good (keysN 10) w l nu t) : 0 ≤ w.signer ∧ w.signer ≤ 9 ∧ w.sig = sealOf (keyB w.signer) (wishText w) := by
  have h1 := wishOk_signer g.wok
  have h2 := g.sl
  rw [sealBadW, Bool.or_eq_false_iff, keysN_len, decide_eq_false_iff_not] at h2
  have h3 : w.sig = sealOf ((keysN 10).getD w.signer.toNat []) (wishText w) := by simpa using h2.2
  rw [keysN_at h1.1 (by omega)] at h3
  exact ⟨h1.1, by omega, h3⟩
theorem Good.signP {w : Wish} {l : List Proxy} {nu t : Int} (g : Good (keysN 10) w l nu t) {k : Nat} (hk : k < l.length) : (0 ≤ (l[k]'hk).frm ∧ (l[k]'hk).frm ≤ 9) ∧ (l[k]'hk).sig = sealOf (keyB (l[k]'hk).frm) (proxyText (l[k]'hk)) ∧ proxyOk (l[k]'hk) = true := by
  have hf := g.forms k hk
  rw [formP, getD_get _ hk, Bool.not_eq_false'] at hf
  have h1 := proxyOk_frm hf
  have h2 := g.seals k hk
  rw [sealP, getD_get _ hk, sealBadP, Bool.or_eq_false_iff, keysN_len, decide_eq_false_iff_not] at h2
  have h3 : (l[k]'hk).sig = sealOf ((keysN 10).getD (l[k]'hk).frm.toNat []) (proxyText (l[k]'hk)) := by simpa using h2.2
  rw [keysN_at h1.1 (by omega)] at h3
  exact ⟨⟨h1.1, by omega⟩, h3, hf⟩
theorem Made.bind {w v : Wish} {l : List Proxy} (M : Made w l) {nu t : Int} (g : Good (keysN 10) v l nu t) (hs : v.sig = w.sig) (hne : ¬ v = w) {hA : w.signer.toNat < (keysN 10).length} {hB : v.signer.toNat < (keysN 10).length} :
    collB (hashed ((keysN 10)[w.signer.toNat]'hA) (wishText w)) (hashed ((keysN 10)[v.signer.toNat]'hB) (wishText v)) = true := by
  obtain ⟨s1, s2, s3⟩ := g.sign
  rw [keysN_el, keysN_el, Int.toNat_of_nonneg M.sg.1, Int.toNat_of_nonneg s1]
  exact coll_gen (keyB_len _) (keyB_len _) (by rw [← s3, ← M.sl, hs]) fun e => hne (wishText_inj M.wok g.wok e hs.symm).symm
theorem encode_le (w : Wish) (l : List Proxy) : (encode w l).1.length ≤ 1000 := by
  unfold encode
  split
  · rename_i h
    have h1 := puts_length [(l.length : Int)]
    have h2 := wishText_len w
    have h3 := seals_len h.2.2
    have h4 := (formedOk_parts h.1).2.1
    have h5 := h.2.1
    simp only [List.length_cons, List.length_nil] at h1
    simp only [encText, List.length_append]
    omega
  · simp
theorem decode_len (s : Bytes) : (decodeOf s).2.1.length ≤ 4 := by
  by_cases h : (decodeOf s).2.2 = 0
  · exact (formedOk_parts (decode_text h).2).2.1
  · rw [decode_bad h]; simp
theorem all_app {P : Bytes → Prop} {l m : List Bytes} (h1 : ∀ z ∈ l, P z) (h2 : ∀ z ∈ m, P z) : ∀ z ∈ l ++ m, P z := fun z hz => by
  rw [List.mem_append] at hz
  exact hz.elim (h1 z) (h2 z)
def pairL (x : Int × Int) : List Value := [.int .i64 x.1, .int .i64 x.2]
end Go.TL
end
section
set_option linter.unusedVariables false
set_option linter.unusedSimpArgs false
set_option maxRecDepth 100000
set_option maxHeartbeats 800000
namespace Go.Proofs
open Go.TL
attribute [local irreducible] Go.TL.T Go.TL.TO Go.TL.TQ
theorem Tryz.enters17 : Enters Tryz.prog 17 := fun args w => by kernel_rfl
theorem Tryz.enters37 : Enters Tryz.prog 37 := fun args w => by kernel_rfl
theorem Tryz.enters38 : Enters Tryz.prog 38 := fun args w => by kernel_rfl
theorem Tryz.enters39 : Enters Tryz.prog 39 := fun args w => by kernel_rfl
end Go.Proofs
end
section
/- The chapter's examples, reckoned. No program is named here. -/
set_option linter.unusedVariables false
set_option linter.unusedSimpArgs false
set_option maxRecDepth 100000
namespace Go.TL
def swx : Wish := { sw 200 with carrier := 4 }
def spx : Proxy := { sp 500 with shi := 600 }
theorem sane_w1 : whyOf (keysN 10) (sw 200) [sp 500] 1100 150 = (0, -1) := by kernel_rfl
theorem sane_w2 : whyOf (keysN 10) (sw 200) [sp 500] 1199 199 = (0, -1) := by kernel_rfl
theorem sane_w3 : whyOf (keysN 10) (sw 200) [sp 500] 1200 150 = (3, -1) := by kernel_rfl
theorem sane_w4 : whyOf (keysN 10) (sw 200) [sp 500] 1100 200 = (2, -1) := by kernel_rfl
theorem sane_w5 : whyOf (keysN 10) (sw 200) [sp 500] 1200 200 = (2, -1) := by kernel_rfl
theorem sane_w6 : whyOf (keysN 10) (sw 200) [] 1100 150 = (4, -1) := by kernel_rfl
theorem sane_w7 : whyOf (keysN 10) (sw 501) [sp 500] 1100 150 = (5, -1) := by kernel_rfl
theorem sane_w8 : whyOf (keysN 10) swx [sp 500] 1100 150 = (6, -1) := by kernel_rfl
theorem sane_w9 : whyOf (keysN 10) (sw 200) [spx] 1100 150 = (6, 0) := by kernel_rfl
theorem sane_w10 : whyOf (keysN 10) wish0 [] 0 0 = (1, -1) := by kernel_rfl
theorem sane_a1 : (account (keyB 3) 1100 1).2 = 0 := by kernel_rfl
theorem sane_a2 : ((account (keyB 3) 1100 1).1.length : Int) = 16 := by kernel_rfl
theorem sane_c1 : checks (keyB 3) 1100 1 (account (keyB 3) 1100 1).1 = true := by simp [checks, sane_a1]
theorem sane_c2 : checks (keyB 4) 1100 1 (account (keyB 3) 1100 1).1 = false := by kernel_rfl
theorem sane_f1 : formedOk (sw 200) [sp 500] = true := by kernel_rfl
theorem sane_f2 : formedOk wish0 [] = false := by kernel_rfl
theorem sane_s1 : ((sw 200).sig.length : Int) = 32 := by kernel_rfl
theorem sane_s2 : ((sp 500).sig.length : Int) = 32 := by kernel_rfl
theorem sane_e1 : (encode (sw 200) [sp 500]).2 = 0 := by kernel_rfl
theorem sane_e2 : (encode (sw 200) [sp 500]).1.length ≤ 1000000000000 := by
  have h : decide ((encode (sw 200) [sp 500]).1.length ≤ 1000) = true := by kernel_rfl
  have h2 := of_decide_eq_true h
  omega
theorem sane_d : decodeOf (encode (sw 200) [sp 500]).1 = (sw 200, [sp 500], 0) := by kernel_rfl
end Go.TL
end
section
set_option linter.unusedVariables false
set_option linter.unusedSimpArgs false
set_option maxRecDepth 100000
set_option maxHeartbeats 800000
namespace Go.Proofs
open Go.TL
attribute [local irreducible] Go.TL.T Go.TL.TO Go.TL.TQ
theorem Tryz.enters13 : Enters Tryz.prog 13 := fun args w => by kernel_rfl
end Go.Proofs
end
section
set_option linter.unusedVariables false
set_option linter.unusedSimpArgs false
set_option maxRecDepth 100000
set_option maxHeartbeats 800000
namespace Go.Proofs
open Go.TL
attribute [local irreducible] Go.TL.T Go.TL.TO Go.TL.TQ
theorem Tryz.enters20 : Enters Tryz.prog 20 := fun args w => by kernel_rfl
theorem Tryz.enters22 : Enters Tryz.prog 22 := fun args w => by kernel_rfl
end Go.Proofs
end
section
set_option linter.unusedVariables false
set_option linter.unusedSimpArgs false
set_option maxRecDepth 100000
set_option maxHeartbeats 800000
namespace Go.Proofs
open Go.TL
attribute [local irreducible] Go.TL.T Go.TL.TO Go.TL.TQ
theorem Tryz.field115_1 : TyField Tryz.prog 115 1 1 := fun a w => by kernel_rfl
theorem Tryz.notif112 : NotIface Tryz.prog 112 := (by kernel_rfl : (Tryz.prog.underlying 112).any notIfaceB = true)
theorem Tryz.one118 : TyOne Tryz.prog 118 := ⟨fun w => by kernel_rfl, fun w => by kernel_rfl⟩
theorem Tryz.one31 : TyOne Tryz.prog 31 := ⟨fun w => by kernel_rfl, fun w => by kernel_rfl⟩
theorem Tryz.one54 : TyOne Tryz.prog 54 := ⟨fun w => by kernel_rfl, fun w => by kernel_rfl⟩
theorem Tryz.places112 : TyPlaces Tryz.prog 112 #[] := ⟨by kernel_rfl, fun w => by kernel_rfl⟩
theorem Tryz.places115 : TyPlaces Tryz.prog 115 #[(0, 1), (1, 1)] := ⟨by kernel_rfl, fun w => by kernel_rfl⟩
theorem Tryz.size118 : ∀ w, (sizeOf 118).run Tryz.prog w = .ok 1 w := fun w => by kernel_rfl
theorem Tryz.size31 : ∀ w, (sizeOf 31).run Tryz.prog w = .ok 1 w := fun w => by kernel_rfl
theorem Tryz.size54 : ∀ w, (sizeOf 54).run Tryz.prog w = .ok 1 w := fun w => by kernel_rfl
theorem Tryz.under119 : Tryz.prog.underlying 119 = some (.array 6 118) := by kernel_rfl
theorem Tryz.under120 : Tryz.prog.underlying 120 = some (.array 8 118) := by kernel_rfl
theorem Tryz.zero112 : TyZero Tryz.prog 112 (.agg #[]) := fun w => by kernel_rfl
theorem Tryz.zero115 : TyZero Tryz.prog 115 (.agg #[.string ⟨#[]⟩, .int .i64 0]) := fun w => by kernel_rfl
theorem Tryz.zero119 : TyZero Tryz.prog 119 (.agg #[.pointer none, .pointer none, .pointer none, .pointer none, .pointer none, .pointer none]) := fun w => by kernel_rfl
theorem Tryz.zero120 : TyZero Tryz.prog 120 (.agg #[.pointer none, .pointer none, .pointer none, .pointer none, .pointer none, .pointer none, .pointer none, .pointer none]) := fun w => by kernel_rfl
theorem Tryz.zero31 : TyZero Tryz.prog 31 (.slice none 0 0) := fun w => by kernel_rfl
theorem Tryz.zero54 : TyZero Tryz.prog 54 (.int .i64 0) := fun w => by kernel_rfl
theorem Tryz.enters68 : Enters Tryz.prog 68 := fun args w => by kernel_rfl
theorem Tryz.enters69 : Enters Tryz.prog 69 := fun args w => by kernel_rfl
theorem Tryz.enters70 : Enters Tryz.prog 70 := fun args w => by kernel_rfl
theorem Tryz.enters71 : Enters Tryz.prog 71 := fun args w => by kernel_rfl
end Go.Proofs
end
section
set_option linter.unusedVariables false
set_option linter.unusedSimpArgs false
set_option maxRecDepth 100000
set_option maxHeartbeats 800000
namespace Go.Proofs
open Go.TL
attribute [local irreducible] Go.TL.T Go.TL.TO Go.TL.TQ
theorem Tryz.size112 : ∀ w, (sizeOf 112).run Tryz.prog w = .ok 0 w := fun w => by kernel_rfl
theorem Tryz.under20 : Tryz.prog.underlying 20 = some (.interface #[]) := by kernel_rfl
end Go.Proofs
end
section
set_option linter.unusedVariables false
set_option linter.unusedSimpArgs false
set_option maxRecDepth 100000
set_option maxHeartbeats 800000
namespace Go.Proofs
open Go.TL
attribute [local irreducible] Go.TL.T Go.TL.TO Go.TL.TQ
theorem Tryz.field115_0 : TyField Tryz.prog 115 0 0 := fun a w => by kernel_rfl
theorem Tryz.enters95 : Enters Tryz.prog 95 := fun args w => by kernel_rfl
end Go.Proofs
end
section
set_option linter.unusedVariables false
set_option linter.unusedSimpArgs false
set_option maxRecDepth 100000
set_option maxHeartbeats 800000
namespace Go.Proofs
open Go.TL
attribute [local irreducible] Go.TL.T Go.TL.TO Go.TL.TQ
end Go.Proofs
end
section
set_option linter.unusedVariables false
set_option linter.unusedSimpArgs false
set_option maxRecDepth 100000
set_option maxHeartbeats 800000
namespace Go.Proofs
open Go.TL
attribute [local irreducible] Go.TL.T Go.TL.TO Go.TL.TQ
theorem c_wire_Int (s : Bytes) (a : Int) (hs : s.length ≤ 4611686018427387903) : Cv Tryz.prog 95 #[.string (str s), .int .i64 a] [] (.tuple #[.int .i64 (unInt s a).1, .int .i64 (unInt s a).2.1, .int .i64 (unInt s a).2.2]) := by
 refine Ctr.intro Tryz.func95 rfl Tryz.ntmps95 (Nat.le_of_ble_eq_true rfl) fun S0 w0 => ?_
 refine T.seq (T.region ?_)
 refine rdx (rd_assign (v := .int _ _) rfl) ?_
 refine rdx (rd_assign (v := .int _ _) rfl) ?_
 refine rdx (rd_assign (v := .int _ _) rfl) ?_
 refine TO.nil (TQ.then_normal (T.seq (T.seq (T.region ?_))))
 refine rdx (rd_move (v := .int _ _) rfl) ?_
 refine rdx (rd_lss rfl rfl) ?_
 refine rdx (rd_move (v := .bool _) rfl) ?_
 refine TO.decide (s := 13) rfl (fun h1 => ?_) (fun h1 => ?_)
 ·try simp only [nrm] at h1
  refine TO.guard_false (s := 13) (b' := true) rfl rfl nofun ?_
  refine TO.guard_false (s := 13) (b' := true) rfl rfl nofun ?_
  refine TO.guard_false (s := 13) (b' := true) rfl rfl nofun ?_
  refine TO.guard_false (s := 13) (b' := true) rfl rfl nofun ?_
  refine rdx (rd_pick_true (v := .bool _) rfl rfl) ?_
  refine TO.nil (TQ.then_normal ?_)
  refine T.cond_true rfl ?_
  refine T.seq (T.region ?_)
  refine rdx (rd_assign (v := .int _ _) rfl) ?_
  refine rdx (rd_assign (v := .int _ _) rfl) ?_
  refine rdx (rd_assign (v := .int _ _) rfl) ?_
  refine TO.nil (TQ.then_normal (T.ret (TQ.then_ret ?_)))
  refine TQ.value ?_ (res3 Tryz.results95 (Res.tmp (v := .int _ _) rfl) (Res.tmp (v := .int _ _) rfl) (Res.tmp (v := .int _ _) rfl)) _ (.inl rfl)
  rw [unInt_out (by omega)]
 try simp only [nrm] at h1
 refine TO.guard_true (s := 13) rfl rfl ?_
 refine rdx (rd_move (v := .int _ _) rfl) ?_
 refine TO.guard_true (s := 13) rfl rfl ?_
 refine rdx (rd_move (v := .string _) rfl) ?_
 refine TO.guard_true (s := 13) rfl rfl ?_
 refine rdx (rd_lens' Tryz.under9 rfl) ?_
 refine TO.guard_true (s := 13) rfl rfl ?_
 refine rdx (rd_gtr rfl rfl) ?_
 refine rdx (rd_pick_false (v := .bool _) rfl rfl) ?_
 refine TO.nil (TQ.then_normal ?_)
 refine T.cond rfl (fun h2 => ?_) (fun h2 => ?_)
 ·try simp only [nrm] at h2
  refine T.seq (T.region ?_)
  refine rdx (rd_assign (v := .int _ _) rfl) ?_
  refine rdx (rd_assign (v := .int _ _) rfl) ?_
  refine rdx (rd_assign (v := .int _ _) rfl) ?_
  refine TO.nil (TQ.then_normal (T.ret (TQ.then_ret ?_)))
  refine TQ.value ?_ (res3 Tryz.results95 (Res.tmp (v := .int _ _) rfl) (Res.tmp (v := .int _ _) rfl) (Res.tmp (v := .int _ _) rfl)) _ (.inl rfl)
  rw [unInt_out (by omega)]
 try simp only [nrm] at h2
 refine T.skip (TQ.then_normal (T.seq (T.region ?_)))
 refine rdx (rd_assign (v := .int _ _) rfl) ?_
 refine TO.nil (TQ.then_normal (T.seq (T.seq (T.region ?_))))
 refine rdx (rd_move (v := .int _ _) rfl) ?_
 refine TO.nil (TQ.then_normal (T.block ?_))
 refine T.loop3 [0, 1] (fun (i : Nat) (k : Nat) (z : Nat) => [(7, .int .u64 (z : Nat)), (19, .int .i64 (i : Nat))]) (fun (i : Nat) (k : Nat) (z : Nat) => []) (fun (i : Nat) (k : Nat) (z : Nat) => RdInv s a.toNat i k z ∧ i + k = 9 ∧ z < 128 ^ i) (fun (i : Nat) (k : Nat) (z : Nat) => k) (0) (9) (0) (⟨RdInv.start _ _, rfl, by decide⟩) (And.intro (rfl) (And.intro (rfl) (trivial))) (fun _ _ h => h) fun i k z g0 hx0 => ?_
 obtain ⟨hI, hik, hz⟩ := hx0
 refine T.seq (T.region ?_)
 refine rdx (rd_lss rfl rfl) ?_
 refine TO.nil (TQ.then_normal (T.seq ?_))
 refine T.cond_ft rfl (fun h3 => ?_) (fun h3 => ?_)
 ·try simp only [nrm] at h3
  refine T.exit (TQ.then_exit (TQ.then_exit (TQ.block_out (TQ.then_normal (T.seq (T.region ?_))))))
  refine rdx (rd_assign (v := .int _ _) rfl) ?_
  refine rdx (rd_assign (v := .int _ _) rfl) ?_
  refine rdx (rd_assign (v := .int _ _) rfl) ?_
  refine TO.nil (TQ.then_normal (T.ret ?_))
  refine TQ.value ?_ (res3 Tryz.results95 (Res.tmp (v := .int _ _) rfl) (Res.tmp (v := .int _ _) rfl) (Res.tmp (v := .int _ _) rfl)) _ (.inl rfl)
  rw [unInt_none (by omega) (by omega) (hI.out (by omega))]
 try simp only [nrm] at h3
 refine T.skip (TQ.then_normal (T.seq (T.block (T.seq (T.region ?_)))))
 refine rdx (rd_move (v := .int _ _) rfl) ?_
 refine rdx (rd_assign (v := .int _ _) rfl) ?_
 refine TO.nil (TQ.then_normal (T.seq (T.seq (T.region ?_))))
 refine rdx (rd_move (v := .int _ _) rfl) ?_
 refine rdx (rd_move (v := .int _ _) rfl) ?_
 refine rdx (rd_add rfl rfl (w64 (by omega) (by omega))) ?_
 refine rdx (rd_move (v := .string _) rfl) ?_
 refine rdx (rd_lens' Tryz.under9 rfl) ?_
 refine rdx (rd_geq rfl rfl) ?_
 refine TO.nil (TQ.then_normal ?_)
 refine T.cond rfl (fun h4 => ?_) (fun h4 => ?_)
 ·try simp only [nrm] at h4
  refine T.exit (TQ.then_exit ?_)
  refine TQ.block_past (by decide) ?_
  refine TQ.then_exit (TQ.then_exit (TQ.block_out (TQ.then_normal (T.seq (T.region ?_)))))
  refine rdx (rd_assign (v := .int _ _) rfl) ?_
  refine rdx (rd_assign (v := .int _ _) rfl) ?_
  refine rdx (rd_assign (v := .int _ _) rfl) ?_
  refine TO.nil (TQ.then_normal (T.ret ?_))
  refine TQ.value ?_ (res3 Tryz.results95 (Res.tmp (v := .int _ _) rfl) (Res.tmp (v := .int _ _) rfl) (Res.tmp (v := .int _ _) rfl)) _ (.inl rfl)
  rw [unInt_none (by omega) (by omega) (hI.out (by omega))]
 try simp only [nrm] at h4
 refine T.skip (TQ.then_normal (T.seq (T.region ?_)))
 refine rdx (rd_move (v := .string _) rfl) ?_
 refine rdx (rd_move (v := .int _ _) rfl) ?_
 refine rdx (rd_move (v := .int _ _) rfl) ?_
 refine rdx (rd_add rfl rfl (w64 (by omega) (by omega))) ?_
 refine rdx (rd_idxs (j := a.toNat + i) Tryz.under9 rfl rfl (by omega) (by omega)) ?_
 refine rdx (rd_assign (v := .int _ _) rfl) ?_
 refine TO.nil (TQ.then_normal (T.seq (T.region ?_)))
 refine rdx (rd_move (v := .int _ _) rfl) ?_
 refine rdx (rd_move (v := .int _ _) rfl) ?_
 refine rdx (rd_and127b rfl rfl rfl) ?_
 refine rdx (rd_conv8_64n Tryz.isome5 Tryz.under146 rfl (by omega)) ?_
 refine rdx (rd_move (v := .int _ _) rfl) ?_
 refine rdx (rd_mul rfl rfl (w64 (by omega) (by omega))) ?_
 refine rdx (rd_shl rfl rfl (by omega) (shl7 (Nat.mod_lt _ (by decide)) (by omega))) ?_
 refine rdx (rd_or64 (c := (s[a.toNat + i]'(by omega)).toNat % 128) (i := i) rfl rfl hz (Nat.mod_lt _ (by decide)) (by omega)) ?_
 have hZ : z + (s[a.toNat + i]'(by omega)).toNat % 128 * 128 ^ i < 9223372036854775808 := Nat.lt_of_lt_of_le (add128 hz (Nat.mod_lt _ (by omega))) (by have := pow128_le (i := i + 1) (by omega); omega)
 refine rdx (rd_assign (v := .int _ _) rfl) ?_
 refine TO.nil (TQ.then_normal (T.seq (T.seq (T.region ?_))))
 refine rdx (rd_move (v := .int _ _) rfl) ?_
 refine rdx (rd_geq rfl rfl) ?_
 refine TO.nil (TQ.then_normal ?_)
 refine T.cond rfl (fun h5 => ?_) (fun h5 => ?_)
 ·try simp only [nrm] at h5
  refine T.exit (TQ.then_exit (TQ.block_out (TQ.then_normal (T.region ?_))))
  refine rdx (rd_add rfl rfl (w64 (by omega) (by omega))) ?_
  refine rdx (rd_move (v := .int _ _) rfl) ?_
  refine TO.nil ?_
  refine TQ.againk (i + 1, k - 1, z + (s[a.toNat + i]'(by omega)).toNat % 128 * 128 ^ i) ?_ ?_ (And.intro (rfl) (And.intro (rfl) (trivial))) (And.intro (rfl) (And.intro (rfl) (trivial))) (fun _ _ h => h)
  ·obtain ⟨k, rfl⟩ : ∃ j, k = j + 1 := ⟨k - 1, by omega⟩
   exact ⟨by simpa using hI.next (by omega) (by omega), by dsimp only; omega, add128 hz (Nat.mod_lt _ (by omega))⟩
  ·dsimp only; omega
 try simp only [nrm] at h5
 refine T.skip (TQ.then_normal (T.seq (T.region ?_)))
 refine rdx (rd_move (v := .int _ _) rfl) ?_
 refine rdx (rd_shr1 rfl rfl rfl) ?_
 refine rdx (rd_convert Tryz.isome146 Tryz.under3 rfl (w64 (by omega) (by omega))) ?_
 refine rdx (rd_move (v := .int _ _) rfl) ?_
 refine rdx (rd_and1 rfl rfl rfl (by omega)) ?_
 refine rdx (rd_convert Tryz.isome146 Tryz.under3 rfl (w64 (by omega) (by omega))) ?_
 refine rdx (rd_neg rfl (w64 (by omega) (by omega))) ?_
 refine rdx (rd_xor (s := unz (z + (s[a.toNat + i]'(by omega)).toNat % 128 * 128 ^ i)) rfl rfl (xor_unz (by omega))) ?_
 refine rdx (rd_assign (v := .int _ _) rfl) ?_
 refine TO.nil (TQ.then_normal (T.seq (T.seq (T.region ?_))))
 refine rdx (rd_move (v := .int _ _) rfl) ?_
 refine rdx (rd_eql rfl rfl) ?_
 refine rdx (rd_move (v := .bool _) rfl) ?_
 refine TO.decide_ft (s := 53) rfl (fun h6 => ?_) (fun h6 => ?_)
 ·try simp only [nrm] at h6
  refine TO.guard_false (s := 53) (b' := false) rfl rfl nofun ?_
  refine TO.guard_false (s := 53) (b' := false) rfl rfl nofun ?_
  refine rdx (rd_pick_false (v := .bool _) rfl rfl) ?_
  refine rdx (rd_move (v := .bool _) rfl) ?_
  refine TO.guard_true (s := 57) rfl rfl ?_
  refine rdx (rd_move (v := .int _ _) rfl) ?_
  refine TO.guard_true (s := 57) rfl rfl ?_
  refine rdx (rd_lss rfl rfl) ?_
  refine rdx (rd_pick_false (v := .bool _) rfl rfl) ?_
  refine TO.nil (TQ.then_normal ?_)
  refine T.cond rfl (fun h9 => ?_) (fun h9 => ?_)
  ·try simp only [nrm] at h9
   refine T.exit (TQ.then_exit ?_)
   refine TQ.block_past (by decide) ?_
   refine TQ.then_exit (TQ.then_exit (TQ.block_out (TQ.then_normal (T.seq (T.region ?_)))))
   refine rdx (rd_assign (v := .int _ _) rfl) ?_
   refine rdx (rd_assign (v := .int _ _) rfl) ?_
   refine rdx (rd_assign (v := .int _ _) rfl) ?_
   refine TO.nil (TQ.then_normal (T.ret ?_))
   refine TQ.value ?_ (res3 Tryz.results95 (Res.tmp (v := .int _ _) rfl) (Res.tmp (v := .int _ _) rfl) (Res.tmp (v := .int _ _) rfl)) _ (.inl rfl)
   obtain ⟨k, rfl⟩ : ∃ j, k = j + 1 := ⟨k - 1, by omega⟩
   have hr := (show rdv 9 (s.drop a.toNat) = some (z + (s[a.toNat + i]'(by omega)).toNat % 128 * 128 ^ i, i, _) from by rw [Nat.mod_eq_of_lt (by omega)]; exact hI.stop (by omega) (by omega))
   have hsm := rdv_small hr
   rw [unInt_bad (by omega) (by omega) hr (.inr (by omega))]
  try simp only [nrm] at h9
  refine T.skip (TQ.then_normal (T.seq (T.region ?_)))
  refine rdx (rd_move (v := .int _ _) rfl) ?_
  refine rdx (rd_move (v := .int _ _) rfl) ?_
  refine rdx (rd_move (v := .int _ _) rfl) ?_
  refine rdx (rd_add rfl rfl (w64 (by omega) (by omega))) ?_
  refine rdx (rd_add rfl rfl (w64 (by omega) (by omega))) ?_
  refine rdx (rd_assign (v := .int _ _) rfl) ?_
  refine rdx (rd_assign (v := .int _ _) rfl) ?_
  refine rdx (rd_assign (v := .int _ _) rfl) ?_
  refine TO.nil (TQ.then_normal (T.ret (TQ.block_ret (TQ.then_ret (TQ.then_ret (TQ.block_ret (TQ.then_ret ?_)))))))
  refine TQ.value ?_ (res3 Tryz.results95 (Res.tmp (v := .int _ _) rfl) (Res.tmp (v := .int _ _) rfl) (Res.tmp (v := .int _ _) rfl)) _ (.inl rfl)
  obtain ⟨k, rfl⟩ : ∃ j, k = j + 1 := ⟨k - 1, by omega⟩
  have hr := (show rdv 9 (s.drop a.toNat) = some (z + (s[a.toNat + i]'(by omega)).toNat % 128 * 128 ^ i, i, _) from by rw [Nat.mod_eq_of_lt (by omega)]; exact hI.stop (by omega) (by omega))
  have hsm := rdv_small hr
  rw [unInt_ok (by omega) (by omega) hr (by omega)]
 try simp only [nrm] at h6
 refine TO.guard_true (s := 53) rfl rfl ?_
 refine rdx (rd_move (v := .int _ _) rfl) ?_
 refine TO.guard_true (s := 53) rfl rfl ?_
 refine rdx (rd_gtr rfl rfl) ?_
 refine rdx (rd_pick_true (v := .bool _) rfl rfl) ?_
 refine rdx (rd_move (v := .bool _) rfl) ?_
 refine TO.decide (s := 57) rfl (fun h7 => ?_) (fun h7 => ?_)
 ·try simp only [nrm] at h7
  refine TO.guard_false (s := 57) (b' := true) rfl rfl nofun ?_
  refine TO.guard_false (s := 57) (b' := true) rfl rfl nofun ?_
  refine rdx (rd_pick_true (v := .bool _) rfl rfl) ?_
  refine TO.nil (TQ.then_normal ?_)
  refine T.cond_true rfl ?_
  refine T.exit (TQ.then_exit ?_)
  refine TQ.block_past (by decide) ?_
  refine TQ.then_exit (TQ.then_exit (TQ.block_out (TQ.then_normal (T.seq (T.region ?_)))))
  refine rdx (rd_assign (v := .int _ _) rfl) ?_
  refine rdx (rd_assign (v := .int _ _) rfl) ?_
  refine rdx (rd_assign (v := .int _ _) rfl) ?_
  refine TO.nil (TQ.then_normal (T.ret ?_))
  refine TQ.value ?_ (res3 Tryz.results95 (Res.tmp (v := .int _ _) rfl) (Res.tmp (v := .int _ _) rfl) (Res.tmp (v := .int _ _) rfl)) _ (.inl rfl)
  obtain ⟨k, rfl⟩ : ∃ j, k = j + 1 := ⟨k - 1, by omega⟩
  have hr := (show rdv 9 (s.drop a.toNat) = some (z + (s[a.toNat + i]'(by omega)).toNat % 128 * 128 ^ i, i, _) from by rw [Nat.mod_eq_of_lt (by omega)]; exact hI.stop (by omega) (by omega))
  have hsm := rdv_small hr
  rw [unInt_bad (by omega) (by omega) hr (.inl ⟨by omega, by omega⟩)]
 try simp only [nrm] at h7
 refine TO.guard_true (s := 57) rfl rfl ?_
 refine rdx (rd_move (v := .int _ _) rfl) ?_
 refine TO.guard_true (s := 57) rfl rfl ?_
 refine rdx (rd_lss rfl rfl) ?_
 refine rdx (rd_pick_false (v := .bool _) rfl rfl) ?_
 refine TO.nil (TQ.then_normal ?_)
 refine T.cond rfl (fun h8 => ?_) (fun h8 => ?_)
 ·try simp only [nrm] at h8
  refine T.exit (TQ.then_exit ?_)
  refine TQ.block_past (by decide) ?_
  refine TQ.then_exit (TQ.then_exit (TQ.block_out (TQ.then_normal (T.seq (T.region ?_)))))
  refine rdx (rd_assign (v := .int _ _) rfl) ?_
  refine rdx (rd_assign (v := .int _ _) rfl) ?_
  refine rdx (rd_assign (v := .int _ _) rfl) ?_
  refine TO.nil (TQ.then_normal (T.ret ?_))
  refine TQ.value ?_ (res3 Tryz.results95 (Res.tmp (v := .int _ _) rfl) (Res.tmp (v := .int _ _) rfl) (Res.tmp (v := .int _ _) rfl)) _ (.inl rfl)
  obtain ⟨k, rfl⟩ : ∃ j, k = j + 1 := ⟨k - 1, by omega⟩
  have hr := (show rdv 9 (s.drop a.toNat) = some (z + (s[a.toNat + i]'(by omega)).toNat % 128 * 128 ^ i, i, _) from by rw [Nat.mod_eq_of_lt (by omega)]; exact hI.stop (by omega) (by omega))
  have hsm := rdv_small hr
  rw [unInt_bad (by omega) (by omega) hr (.inr (by omega))]
 try simp only [nrm] at h8
 refine T.skip (TQ.then_normal (T.seq (T.region ?_)))
 refine rdx (rd_move (v := .int _ _) rfl) ?_
 refine rdx (rd_move (v := .int _ _) rfl) ?_
 refine rdx (rd_move (v := .int _ _) rfl) ?_
 refine rdx (rd_add rfl rfl (w64 (by omega) (by omega))) ?_
 refine rdx (rd_add rfl rfl (w64 (by omega) (by omega))) ?_
 refine rdx (rd_assign (v := .int _ _) rfl) ?_
 refine rdx (rd_assign (v := .int _ _) rfl) ?_
 refine rdx (rd_assign (v := .int _ _) rfl) ?_
 refine TO.nil (TQ.then_normal (T.ret (TQ.block_ret (TQ.then_ret (TQ.then_ret (TQ.block_ret (TQ.then_ret ?_)))))))
 refine TQ.value ?_ (res3 Tryz.results95 (Res.tmp (v := .int _ _) rfl) (Res.tmp (v := .int _ _) rfl) (Res.tmp (v := .int _ _) rfl)) _ (.inl rfl)
 obtain ⟨k, rfl⟩ : ∃ j, k = j + 1 := ⟨k - 1, by omega⟩
 have hr := (show rdv 9 (s.drop a.toNat) = some (z + (s[a.toNat + i]'(by omega)).toNat % 128 * 128 ^ i, i, _) from by rw [Nat.mod_eq_of_lt (by omega)]; exact hI.stop (by omega) (by omega))
 have hsm := rdv_small hr
 rw [unInt_ok (by omega) (by omega) hr (by omega)]
end Go.Proofs
end
section
set_option linter.unusedVariables false
set_option linter.unusedSimpArgs false
set_option maxRecDepth 100000
set_option maxHeartbeats 800000
namespace Go.Proofs
open Go.TL
attribute [local irreducible] Go.TL.T Go.TL.TO Go.TL.TQ
theorem c_rd_number (br : Nat) (s : Bytes) (a : Nat) (hs : s.length ≤ 1000000000000) : CtrX Tryz.prog 69 #[.pointer (some ⟨br, 0, none⟩)] [] [own br #[.string (str s), .int .i64 (a : Nat)] 115] (γ := Int × Nat) (fun x => rdN s a = some x) (fun x => .int .i64 x.1) (fun x => [own br #[.string (str s), .int .i64 (x.2 : Nat)] 115]) (rdN s a = none) (.iface 112 (.agg #[])) := by
 refine CtrX.intro Tryz.func69 rfl Tryz.ntmps69 (Nat.le_of_ble_eq_true rfl) fun S0 w0 => ?_
 refine T.seq (T.region ?_)
 refine rdx (rd_assign (v := .int _ _) rfl) ?_
 refine TO.nil (TQ.then_normal (T.seq ?_))
 refine T.drawq Tryz.mixes 15 [(7, 0), (8, 1), (9, 2), (10, 3), (11, 4), (12, 5), (13, 6), (14, 7), (15, 8), (6, 9), (16, 10), (17, 11), (18, 12), (3, 13), (4, 14)] [0, 1, 3, 7, 0, 16, 48, 112, 255, 511, 1023, 1023, 1023, 2047, 12287, 32767] (by kernel_rfl) ?_
 refine DQ.rd rfl rfl (fun _ => rd_move (v := .pointer _) rfl) ?_
 refine DQ.rd rfl rfl (fun _ => rd_nilCheck rfl) ?_
 refine DQ.rd rfl rfl (fun _ => rd_fieldAddr Tryz.field115_0 rfl) ?_
 refine DQ.rd rfl rfl (fun _ => rd_load (v := .string _) Tryz.one9 rfl (Has.own 0 rfl) rfl) ?_
 refine DQ.rd rfl rfl (fun _ => rd_move (v := .pointer _) rfl) ?_
 refine DQ.rd rfl rfl (fun _ => rd_nilCheck rfl) ?_
 refine DQ.rd rfl rfl (fun _ => rd_fieldAddr Tryz.field115_1 rfl) ?_
 refine DQ.rd rfl rfl (fun _ => rd_load (v := .int _ _) Tryz.one3 rfl (Has.own 0 rfl) rfl) ?_
 refine DQ.fn rfl Tryz.enters95 (c_wire_Int _ _ (by omega)) (fun _ => rfl) Reads0 ?_
 refine DQ.rd rfl rfl (fun _ => rd_move (v := .tuple _) rfl) ?_
 refine DQ.rd rfl rfl (fun _ => rd_extract (v := .int _ _) (vs := _) rfl rfl) ?_
 refine DQ.rd rfl rfl (fun _ => rd_extract (v := .int _ _) (vs := _) rfl rfl) ?_
 refine DQ.rd rfl rfl (fun _ => rd_extract (v := .int _ _) (vs := _) rfl rfl) ?_
 refine DQ.rd rfl rfl (fun _ => rd_assign (v := .int _ _) rfl) ?_
 refine DQ.rd rfl rfl (fun _ => rd_assign (v := .int _ _) rfl) ?_
 refine DQ.done rfl ?_
 refine rdx (rd_assign (v := .int _ _) rfl) ?_
 refine TO.nil (TQ.then_normal (T.seq (T.seq (T.region ?_))))
 refine rdx (rd_move (v := .int _ _) rfl) ?_
 refine rdx (rd_neq rfl rfl) ?_
 refine TO.nil (TQ.then_normal ?_)
 refine T.cond rfl (fun h1 => ?_) (fun h1 => ?_)
 ·try simp only [nrm] at h1
  refine T.region ?_
  refine rdx (rd_build (cs := []) Tryz.places112 Tryz.zero112 rfl rfl) ?_
  refine rdx (rd_makeIface' Tryz.notif112 rfl) ?_
  refine TO.panic rfl ?_
  refine TQ.then_panic ?_
  exact TQ.panicX (by rw [rdN, if_neg h1])
 try simp only [nrm] at h1
 refine T.skip (TQ.then_normal (T.seq (T.region ?_)))
 refine rdx (rd_move (v := .pointer _) rfl) ?_
 refine rdx (rd_move (v := .int _ _) rfl) ?_
 refine rdx (rd_nilCheck rfl) ?_
 refine rdx (rd_fieldAddr Tryz.field115_1 rfl) ?_
 refine TO.store0 (cells' := #[.string _, .int _ _]) Tryz.size3 rfl (v := .int _ _) rfl rfl rfl (Nat.le_of_ble_eq_true rfl) rfl ?_
 refine TO.nil (TQ.then_normal (T.seq (T.region ?_)))
 refine rdx (rd_move (v := .int _ _) rfl) ?_
 refine rdx (rd_assign (v := .int _ _) rfl) ?_
 refine TO.nil (TQ.then_normal (T.ret ?_))
 refine TQ.own_eq (cells' := #[.string (str s), .int .i64 (((unInt s a).2.1.toNat : Nat) : Int)]) (by rw [Int.toNat_of_nonneg (unInt_next h1).1]) ?_
 refine TQ.doneX (((unInt s a).1, (unInt s a).2.1.toNat)) (by rw [rdN, if_pos h1]) ?_ (fun _ _ h => h.sel (js := [0]) (by decide)) (res1 Tryz.results69 (Res.tmp (v := .int _ _) rfl)) _ (.inl rfl)
 rfl
theorem c_rd_kind (br : Nat) (s : Bytes) (a : Nat) (hs : s.length ≤ 1000000000000) (m : Int) : CtrX Tryz.prog 70 #[.pointer (some ⟨br, 0, none⟩), .int .i64 m] [] [own br #[.string (str s), .int .i64 (a : Nat)] 115] (γ := Nat) (fun x => rdK s a m = some x) (fun x => .tuple #[]) (fun x => [own br #[.string (str s), .int .i64 (x : Nat)] 115]) (rdK s a m = none) (.iface 112 (.agg #[])) := by
 refine CtrX.intro Tryz.func70 rfl Tryz.ntmps70 (Nat.le_of_ble_eq_true rfl) fun S0 w0 => ?_
 refine T.seq (T.region ?_)
 refine rdx (rd_move (v := .pointer _) rfl) ?_
 refine TO.handX Tryz.enters69 rfl (c_rd_number _ _ _ hs) rfl rfl Reads0 (fun hp3 => ?_) (fun x hx => ?_)
 ·refine TQ.then_panic ?_
  exact TQ.panicX (by rw [rdK, hp3]; rfl)
 refine rdx (rd_move (v := .int _ _) rfl) ?_
 refine rdx (rd_neq rfl rfl) ?_
 refine TO.nil (TQ.then_normal ?_)
 refine T.cond_ft rfl (fun h4 => ?_) (fun h4 => ?_)
 ·try simp only [nrm] at h4
  refine T.skip ?_
  refine TQ.doneX (x.2) (by rw [rdK, hx]; exact if_pos h4) ?_ (fun _ _ h => h.sel (js := [0]) (by decide)) (res0 Tryz.results70) _ (.inr rfl)
  rfl
 try simp only [nrm] at h4
 refine T.region ?_
 refine rdx (rd_build (cs := []) Tryz.places112 Tryz.zero112 rfl rfl) ?_
 refine rdx (rd_makeIface' Tryz.notif112 rfl) ?_
 refine TO.panic rfl ?_
 exact TQ.panicX (by rw [rdK, hx]; exact if_neg h4)
theorem c_rd_digest (br : Nat) (s : Bytes) (a : Nat) (hs : s.length ≤ 1000000000000) (ha : a ≤ s.length) : CtrX Tryz.prog 71 #[.pointer (some ⟨br, 0, none⟩)] [] [own br #[.string (str s), .int .i64 (a : Nat)] 115] (γ := Bytes × Nat) (fun x => rdD s a = some x) (fun x => .string (str x.1)) (fun x => [own br #[.string (str s), .int .i64 (x.2 : Nat)] 115]) (rdD s a = none) (.iface 112 (.agg #[])) := by
 refine CtrX.intro Tryz.func71 rfl Tryz.ntmps71 (Nat.le_of_ble_eq_true rfl) fun S0 w0 => ?_
 refine T.seq (T.region ?_)
 refine rdx (rd_assign (v := .string _) rfl) ?_
 refine TO.nil (TQ.then_normal (T.seq (T.seq ?_)))
 refine T.drawq Tryz.mixes 9 [(4, 0), (5, 1), (6, 2), (7, 3), (8, 4), (9, 5), (10, 6), (11, 7), (12, 8)] [0, 1, 3, 7, 15, 0, 32, 96, 224, 511, 1023] (by kernel_rfl) ?_
 refine DQ.rd rfl rfl (fun _ => rd_move (v := .pointer _) rfl) ?_
 refine DQ.rd rfl rfl (fun _ => rd_nilCheck rfl) ?_
 refine DQ.rd rfl rfl (fun _ => rd_fieldAddr Tryz.field115_0 rfl) ?_
 refine DQ.rd rfl rfl (fun _ => rd_load (v := .string _) Tryz.one9 rfl (Has.own 0 rfl) rfl) ?_
 refine DQ.rd rfl rfl (fun _ => rd_lens' Tryz.under9 rfl) ?_
 refine DQ.rd rfl rfl (fun _ => rd_move (v := .pointer _) rfl) ?_
 refine DQ.rd rfl rfl (fun _ => rd_nilCheck rfl) ?_
 refine DQ.rd rfl rfl (fun _ => rd_fieldAddr Tryz.field115_1 rfl) ?_
 refine DQ.rd rfl rfl (fun _ => rd_load (v := .int _ _) Tryz.one3 rfl (Has.own 0 rfl) rfl) ?_
 refine DQ.done rfl ?_
 refine rdx (rd_sub rfl rfl (w64 (by omega) (by omega))) ?_
 refine rdx (rd_lss rfl rfl) ?_
 refine TO.nil (TQ.then_normal ?_)
 refine T.cond rfl (fun h1 => ?_) (fun h1 => ?_)
 ·try simp only [nrm] at h1
  refine T.region ?_
  refine rdx (rd_build (cs := []) Tryz.places112 Tryz.zero112 rfl rfl) ?_
  refine rdx (rd_makeIface' Tryz.notif112 rfl) ?_
  refine TO.panic rfl ?_
  refine TQ.then_panic ?_
  exact TQ.panicX (by rw [rdD, if_neg (by omega)])
 try simp only [nrm] at h1
 refine T.skip (TQ.then_normal (T.seq ?_))
 refine T.drawq Tryz.mixes 13 [(17, 0), (18, 1), (19, 2), (20, 3), (21, 4), (22, 5), (23, 6), (24, 7), (25, 8), (26, 9), (27, 10), (28, 11), (29, 12)] [0, 1, 3, 7, 0, 16, 48, 112, 0, 256, 768, 1792, 3840, 8191, 16383] (by kernel_rfl) ?_
 refine DQ.rd rfl rfl (fun _ => rd_move (v := .pointer _) rfl) ?_
 refine DQ.rd rfl rfl (fun _ => rd_nilCheck rfl) ?_
 refine DQ.rd rfl rfl (fun _ => rd_fieldAddr Tryz.field115_0 rfl) ?_
 refine DQ.rd rfl rfl (fun _ => rd_load (v := .string _) Tryz.one9 rfl (Has.own 0 rfl) rfl) ?_
 refine DQ.rd rfl rfl (fun _ => rd_move (v := .pointer _) rfl) ?_
 refine DQ.rd rfl rfl (fun _ => rd_nilCheck rfl) ?_
 refine DQ.rd rfl rfl (fun _ => rd_fieldAddr Tryz.field115_1 rfl) ?_
 refine DQ.rd rfl rfl (fun _ => rd_load (v := .int _ _) Tryz.one3 rfl (Has.own 0 rfl) rfl) ?_
 refine DQ.rd rfl rfl (fun _ => rd_move (v := .pointer _) rfl) ?_
 refine DQ.rd rfl rfl (fun _ => rd_nilCheck rfl) ?_
 refine DQ.rd rfl rfl (fun _ => rd_fieldAddr Tryz.field115_1 rfl) ?_
 refine DQ.rd rfl rfl (fun _ => rd_load (v := .int _ _) Tryz.one3 rfl (Has.own 0 rfl) rfl) ?_
 refine DQ.rd rfl rfl (fun _ => rd_add rfl rfl (w64 (by omega) (by omega))) ?_
 refine DQ.done rfl ?_
 refine rdx (rd_sub_str (i := a) (j := a + 32) Tryz.under9 rfl (.inr ⟨_, eqv (by omega)⟩) (.inr ⟨_, eqv (by omega)⟩) (by omega) (by omega) rfl) ?_
 refine rdx (rd_assign (v := .string _) rfl) ?_
 refine TO.nil (TQ.then_normal (T.seq (T.region ?_)))
 refine rdx (rd_move (v := .pointer _) rfl) ?_
 refine rdx (rd_nilCheck rfl) ?_
 refine rdx (rd_fieldAddr Tryz.field115_1 rfl) ?_
 refine rdx (rd_load (v := .int _ _) Tryz.one3 rfl (Has.own 0 rfl) rfl) ?_
 refine rdx (rd_add rfl rfl (w64 (by omega) (by omega))) ?_
 refine rdx (rd_nilCheck rfl) ?_
 refine rdx (rd_fieldAddr Tryz.field115_1 rfl) ?_
 refine TO.store0 (cells' := #[.string _, .int _ _]) Tryz.size3 rfl (v := .int _ _) rfl rfl rfl (Nat.le_of_ble_eq_true rfl) rfl ?_
 refine TO.nil (TQ.then_normal (T.seq (T.region ?_)))
 refine rdx (rd_move (v := .string _) rfl) ?_
 refine rdx (rd_assign (v := .string _) rfl) ?_
 refine TO.nil (TQ.then_normal (T.ret ?_))
 refine TQ.own_eq (cells' := #[.string (str s), .int .i64 ((a + 32 : Nat) : Int)]) (by rfl) ?_
 refine TQ.doneX (((s.take (a + 32)).drop a, a + 32)) (by rw [rdD, if_pos (by omega)]) ?_ (fun _ _ h => h.sel (js := [0]) (by decide)) (res1 Tryz.results71 (Res.tmp (v := .string _) rfl)) _ (.inl rfl)
 rfl
end Go.Proofs
end
section
set_option linter.unusedVariables false
set_option linter.unusedSimpArgs false
set_option maxRecDepth 100000
set_option maxHeartbeats 800000
namespace Go.Proofs
open Go.TL
attribute [local irreducible] Go.TL.T Go.TL.TO Go.TL.TQ
theorem Tryz.enters43 : Enters Tryz.prog 43 := fun args w => by kernel_rfl
theorem Tryz.enters45 : Enters Tryz.prog 45 := fun args w => by kernel_rfl
theorem Tryz.enters46 : Enters Tryz.prog 46 := fun args w => by kernel_rfl
theorem Tryz.enters60 : Enters Tryz.prog 60 := fun args w => by kernel_rfl
theorem Tryz.enters80 : Enters Tryz.prog 80 := fun args w => by kernel_rfl
theorem Tryz.enters83 : Enters Tryz.prog 83 := fun args w => by kernel_rfl
theorem Tryz.enters84 : Enters Tryz.prog 84 := fun args w => by kernel_rfl
end Go.Proofs
end
section
set_option linter.unusedVariables false
set_option linter.unusedSimpArgs false
set_option maxRecDepth 100000
set_option maxHeartbeats 800000
namespace Go.Proofs
open Go.TL
attribute [local irreducible] Go.TL.T Go.TL.TO Go.TL.TQ
theorem c_badProxy1 (p : Proxy) : Cv Tryz.prog 84 #[proxyV p] [] (.bool (!(proxyOk p))) := by
 refine Ctr.intro Tryz.func84 rfl Tryz.ntmps84 (Nat.le_of_ble_eq_true rfl) fun S0 w0 => ?_
 refine T.seq (T.region ?_)
 refine TO.box (v := .agg #[.int _ _, .int _ _, .int _ _, .int _ _, .int _ _, .int _ _, .string _]) rfl (fun b1 => ?_)
 refine rdx (rd_assign (v := .bool _) rfl) ?_
 refine TO.nil (TQ.then_normal (T.seq (T.region ?_)))
 refine rdx (rd_load_agg (cs := #[.int _ _, .int _ _, .int _ _, .int _ _, .int _ _, .int _ _, .string _]) Tryz.agg40 rfl (Has.own 0 rfl) rfl rfl) ?_
 refine TO.fn Tryz.enters60 (c_wish_isProxy _) rfl Reads0 ?_
 refine rdx (rd_not rfl) ?_
 refine rdx (rd_assign (v := .bool _) rfl) ?_
 refine TO.nil (TQ.then_normal (T.ret ?_))
 refine TQ.value ?_ (res1 Tryz.results84 (Res.tmp (v := .bool _) rfl)) _ (.inl rfl)
 rfl
theorem c_Encode1 (p : Proxy) : Cv Tryz.prog 62 #[proxyV p] [] (.bool (!(p.sig.length == 32))) := by
 refine Ctr.intro Tryz.func62 rfl Tryz.ntmps62 (Nat.le_of_ble_eq_true rfl) fun S0 w0 => ?_
 refine T.seq (T.region ?_)
 refine TO.box (v := .agg #[.int _ _, .int _ _, .int _ _, .int _ _, .int _ _, .int _ _, .string _]) rfl (fun b1 => ?_)
 refine rdx (rd_assign (v := .bool _) rfl) ?_
 refine TO.nil (TQ.then_normal (T.seq (T.region ?_)))
 refine rdx (rd_fieldAddr Tryz.field40_4 rfl) ?_
 refine rdx (rd_load (v := .string _) Tryz.one9 rfl (Has.own 0 rfl) rfl) ?_
 refine rdx (rd_lens' Tryz.under9 rfl) ?_
 refine rdx (rd_neq rfl rfl) ?_
 refine rdx (rd_assign (v := .bool _) rfl) ?_
 refine TO.nil (TQ.then_normal (T.ret ?_))
 refine TQ.value ?_ (res1 Tryz.results62 (Res.tmp (v := .bool _) rfl)) _ (.inl rfl)
 congr 1
 rw [bne]
 congr 1
 exact beq_nat32 _
theorem c_Why1 (s : Bytes) : Cv Tryz.prog 42 #[.string (str s)] [] (.bool (!(s.length == 32))) := by
 refine Ctr.intro Tryz.func42 rfl Tryz.ntmps42 (Nat.le_of_ble_eq_true rfl) fun S0 w0 => ?_
 refine T.seq (T.region ?_)
 refine rdx (rd_assign (v := .bool _) rfl) ?_
 refine TO.nil (TQ.then_normal (T.seq (T.region ?_)))
 refine rdx (rd_move (v := .string _) rfl) ?_
 refine TO.fn Tryz.enters43 (c_wish_isKey _) rfl Reads0 ?_
 refine rdx (rd_not rfl) ?_
 refine rdx (rd_assign (v := .bool _) rfl) ?_
 refine TO.nil (TQ.then_normal (T.ret ?_))
 refine TQ.value ?_ (res1 Tryz.results42 (Res.tmp (v := .bool _) rfl)) _ (.inl rfl)
 congr 2
 exact beq_nat32 _
theorem c_IndexFuncP (A : Option Addr) (cap n : Nat) (l : List Proxy) (hn : n = l.length) (g : FuncId) (p : Proxy → Bool) (he : Enters Tryz.prog g) (hp : ∀ x, Cv Tryz.prog g #[proxyV x] [] (.bool (p x))) (hl : l.length ≤ 4611686018427387904) : Cv Tryz.prog 83 #[.slice A n cap, .func (.func g) #[] #[]] [slc proxyL 7 A l] (.int .i64 (ixInt (firstIx (fun i => p (l.getD i proxy0)) l.length))) := by
 subst hn
 refine Ctr.intro Tryz.func83 rfl Tryz.ntmps83 (Nat.le_of_ble_eq_true rfl) fun S0 w0 => ?_
 refine T.seq (T.region ?_)
 refine rdx (rd_assign (v := .int _ _) rfl) ?_
 refine TO.nil (TQ.then_normal (T.seq (T.seq (T.region ?_))))
 refine rdx (rd_move (v := .slice _ _ _) rfl) ?_
 refine rdx (rd_lensl Tryz.under31 rfl) ?_
 refine rdx (rd_move (v := .int _ _) rfl) ?_
 refine TO.nil (TQ.then_normal (T.block ?_))
 refine T.loop1 [0, 1, 7] (fun (k : Nat) => [(8, .int .i64 (k : Nat))]) (fun (k : Nat) => []) (fun (k : Nat) => k ≤ l.length ∧ okTo (fun i => p (l.getD i proxy0)) k) (fun (k : Nat) => l.length - k) (0) (⟨Nat.zero_le _, okTo.zero _⟩) (And.intro (rfl) (trivial)) (fun _ _ h => h) fun k g0 hx0 => ?_
 obtain ⟨hk, hk0⟩ := hx0
 refine T.seq (T.region ?_)
 refine rdx (rd_lss rfl rfl) ?_
 refine TO.nil (TQ.then_normal (T.seq ?_))
 refine T.cond_ft rfl (fun h1 => ?_) (fun h1 => ?_)
 ·try simp only [nrm] at h1
  refine T.exit (TQ.then_exit (TQ.then_exit (TQ.block_out (TQ.then_normal (T.seq (T.region ?_))))))
  refine rdx (rd_assign (v := .int _ _) rfl) ?_
  refine TO.nil (TQ.then_normal (T.ret ?_))
  refine TQ.value ?_ (res1 Tryz.results83 (Res.tmp (v := .int _ _) rfl)) _ (.inl rfl)
  rw [firstIx_none fun i hi => hk0 i (by omega)]; rfl
 try simp only [nrm] at h1
 refine T.skip (TQ.then_normal (T.seq (T.block (T.seq (T.region ?_)))))
 refine rdx (rd_move (v := .int _ _) rfl) ?_
 refine rdx (rd_assign (v := .int _ _) rfl) ?_
 refine TO.nil (TQ.then_normal (T.seq (T.region ?_)))
 refine rdx (rd_move (v := .func _ _ _) rfl) ?_
 refine rdx (rd_move (v := .slice _ _ _) rfl) ?_
 refine rdx (rd_move (v := .int _ _) rfl) ?_
 refine rdx (rd_ix Tryz.under31 Tryz.size40 rfl rfl (Has.arg 0 rfl) rfl (by omega) (by omega)) ?_
 refine rdx (rd_ela (cs := [.int _ _, .int _ _, .int _ _, .int _ _, .int _ _, .int _ _, .string _]) _ 0 Tryz.agg40 rfl (Has.arg 0 rfl) rfl (by omega) (Nat.le_of_ble_eq_true rfl) rfl rfl rfl) ?_
 refine TO.hand he rfl (hp (l[k]'(by omega))) rfl rfl Reads0 (fun _ _ => ?_)
 refine TO.nil (TQ.then_normal ?_)
 refine T.cond_ft rfl (fun h2 => ?_) (fun h2 => ?_)
 ·try simp only [nrm] at h2
  refine T.skip (TQ.block_normal (TQ.then_normal (T.region ?_)))
  refine rdx (rd_add rfl rfl (w64 (by omega) (by omega))) ?_
  refine rdx (rd_move (v := .int _ _) rfl) ?_
  refine TO.nil ?_
  refine TQ.againk (k + 1) ?_ ?_ (And.intro (rfl) (trivial)) (And.intro (rfl) (And.intro (rfl) (And.intro (rfl) (trivial)))) (fun _ _ h => h)
  ·exact ⟨by first | omega | (dsimp only; omega), hk0.next (by (try dsimp only); rw [getD_get _ (by omega)]; assumption)⟩
  ·first | omega | (dsimp only; omega)
 try simp only [nrm] at h2
 refine T.seq (T.region ?_)
 refine rdx (rd_move (v := .int _ _) rfl) ?_
 refine rdx (rd_assign (v := .int _ _) rfl) ?_
 refine TO.nil (TQ.then_normal (T.ret (TQ.block_ret (TQ.then_ret (TQ.then_ret (TQ.block_ret (TQ.then_ret ?_)))))))
 refine TQ.value ?_ (res1 Tryz.results83 (Res.tmp (v := .int _ _) rfl)) _ (.inl rfl)
 rw [firstIx_some hk0 (by (try dsimp only); rw [getD_get _ (by omega)]; assumption) (by omega)]; rfl
theorem c_IndexFuncS (A : Option Addr) (cap n : Nat) (l : List Bytes) (hn : n = l.length) (g : FuncId) (p : Bytes → Bool) (he : Enters Tryz.prog g) (hp : ∀ x, Cv Tryz.prog g #[.string (str x)] [] (.bool (p x))) (hl : l.length ≤ 4611686018427387904) : Cv Tryz.prog 80 #[.slice A n cap, .func (.func g) #[] #[]] [slc eStr 1 A l] (.int .i64 (ixInt (firstIx (fun i => p (l.getD i ([] : Bytes))) l.length))) := by
 subst hn
 refine Ctr.intro Tryz.func80 rfl Tryz.ntmps80 (Nat.le_of_ble_eq_true rfl) fun S0 w0 => ?_
 refine T.seq (T.region ?_)
 refine rdx (rd_assign (v := .int _ _) rfl) ?_
 refine TO.nil (TQ.then_normal (T.seq (T.seq (T.region ?_))))
 refine rdx (rd_move (v := .slice _ _ _) rfl) ?_
 refine rdx (rd_lensl Tryz.under32 rfl) ?_
 refine rdx (rd_move (v := .int _ _) rfl) ?_
 refine TO.nil (TQ.then_normal (T.block ?_))
 refine T.loop1 [0, 1, 7] (fun (k : Nat) => [(8, .int .i64 (k : Nat))]) (fun (k : Nat) => []) (fun (k : Nat) => k ≤ l.length ∧ okTo (fun i => p (l.getD i ([] : Bytes))) k) (fun (k : Nat) => l.length - k) (0) (⟨Nat.zero_le _, okTo.zero _⟩) (And.intro (rfl) (trivial)) (fun _ _ h => h) fun k g0 hx0 => ?_
 obtain ⟨hk, hk0⟩ := hx0
 refine T.seq (T.region ?_)
 refine rdx (rd_lss rfl rfl) ?_
 refine TO.nil (TQ.then_normal (T.seq ?_))
 refine T.cond_ft rfl (fun h1 => ?_) (fun h1 => ?_)
 ·try simp only [nrm] at h1
  refine T.exit (TQ.then_exit (TQ.then_exit (TQ.block_out (TQ.then_normal (T.seq (T.region ?_))))))
  refine rdx (rd_assign (v := .int _ _) rfl) ?_
  refine TO.nil (TQ.then_normal (T.ret ?_))
  refine TQ.value ?_ (res1 Tryz.results80 (Res.tmp (v := .int _ _) rfl)) _ (.inl rfl)
  rw [firstIx_none fun i hi => hk0 i (by omega)]; rfl
 try simp only [nrm] at h1
 refine T.skip (TQ.then_normal (T.seq (T.block (T.seq (T.region ?_)))))
 refine rdx (rd_move (v := .int _ _) rfl) ?_
 refine rdx (rd_assign (v := .int _ _) rfl) ?_
 refine TO.nil (TQ.then_normal (T.seq (T.region ?_)))
 refine rdx (rd_move (v := .func _ _ _) rfl) ?_
 refine rdx (rd_move (v := .slice _ _ _) rfl) ?_
 refine rdx (rd_move (v := .int _ _) rfl) ?_
 refine rdx (rd_ix Tryz.under32 Tryz.size9 rfl rfl (Has.arg 0 rfl) rfl (by omega) (by omega)) ?_
 refine rdx (rd_el (v := .string _) _ 0 Tryz.one9 rfl (Has.arg 0 rfl) rfl (by omega) (Nat.le_of_ble_eq_true rfl) rfl) ?_
 refine TO.hand he rfl (hp (l[k]'(by omega))) rfl rfl Reads0 (fun _ _ => ?_)
 refine TO.nil (TQ.then_normal ?_)
 refine T.cond_ft rfl (fun h2 => ?_) (fun h2 => ?_)
 ·try simp only [nrm] at h2
  refine T.skip (TQ.block_normal (TQ.then_normal (T.region ?_)))
  refine rdx (rd_add rfl rfl (w64 (by omega) (by omega))) ?_
  refine rdx (rd_move (v := .int _ _) rfl) ?_
  refine TO.nil ?_
  refine TQ.againk (k + 1) ?_ ?_ (And.intro (rfl) (trivial)) (And.intro (rfl) (And.intro (rfl) (And.intro (rfl) (trivial)))) (fun _ _ h => h)
  ·exact ⟨by first | omega | (dsimp only; omega), hk0.next (by (try dsimp only); rw [getD_get _ (by omega)]; assumption)⟩
  ·first | omega | (dsimp only; omega)
 try simp only [nrm] at h2
 refine T.seq (T.region ?_)
 refine rdx (rd_move (v := .int _ _) rfl) ?_
 refine rdx (rd_assign (v := .int _ _) rfl) ?_
 refine TO.nil (TQ.then_normal (T.ret (TQ.block_ret (TQ.then_ret (TQ.then_ret (TQ.block_ret (TQ.then_ret ?_)))))))
 refine TQ.value ?_ (res1 Tryz.results80 (Res.tmp (v := .int _ _) rfl)) _ (.inl rfl)
 rw [firstIx_some hk0 (by (try dsimp only); rw [getD_get _ (by omega)]; assumption) (by omega)]; rfl
theorem c_ContainsFuncP (A : Option Addr) (cap n : Nat) (l : List Proxy) (hn : n = l.length) (g : FuncId) (p : Proxy → Bool) (he : Enters Tryz.prog g) (hp : ∀ x, Cv Tryz.prog g #[proxyV x] [] (.bool (p x))) (hl : l.length ≤ 4611686018427387904) : Cv Tryz.prog 63 #[.slice A n cap, .func (.func g) #[] #[]] [slc proxyL 7 A l] (.bool (decide (0 ≤ ixInt (firstIx (fun i => p (l.getD i proxy0)) l.length)))) := by
 subst hn
 refine Ctr.intro Tryz.func63 rfl Tryz.ntmps63 (Nat.le_of_ble_eq_true rfl) fun S0 w0 => ?_
 refine T.seq (T.region ?_)
 refine rdx (rd_assign (v := .bool _) rfl) ?_
 refine TO.nil (TQ.then_normal (T.seq (T.region ?_)))
 refine rdx (rd_move (v := .slice _ _ _) rfl) ?_
 refine rdx (rd_move (v := .func _ _ _) rfl) ?_
 refine TO.fn Tryz.enters83 (c_IndexFuncP _ _ _ l rfl g p he hp hl) rfl (ReadsC (Has.arg 0 rfl) Reads0) ?_
 refine rdx (rd_geq rfl rfl) ?_
 refine rdx (rd_assign (v := .bool _) rfl) ?_
 refine TO.nil (TQ.then_normal (T.ret ?_))
 refine TQ.value ?_ (res1 Tryz.results63 (Res.tmp (v := .bool _) rfl)) _ (.inl rfl)
 rfl
theorem c_ContainsFuncS (A : Option Addr) (cap n : Nat) (l : List Bytes) (hn : n = l.length) (g : FuncId) (p : Bytes → Bool) (he : Enters Tryz.prog g) (hp : ∀ x, Cv Tryz.prog g #[.string (str x)] [] (.bool (p x))) (hl : l.length ≤ 4611686018427387904) : Cv Tryz.prog 44 #[.slice A n cap, .func (.func g) #[] #[]] [slc eStr 1 A l] (.bool (decide (0 ≤ ixInt (firstIx (fun i => p (l.getD i ([] : Bytes))) l.length)))) := by
 subst hn
 refine Ctr.intro Tryz.func44 rfl Tryz.ntmps44 (Nat.le_of_ble_eq_true rfl) fun S0 w0 => ?_
 refine T.seq (T.region ?_)
 refine rdx (rd_assign (v := .bool _) rfl) ?_
 refine TO.nil (TQ.then_normal (T.seq (T.region ?_)))
 refine rdx (rd_move (v := .slice _ _ _) rfl) ?_
 refine rdx (rd_move (v := .func _ _ _) rfl) ?_
 refine TO.fn Tryz.enters80 (c_IndexFuncS _ _ _ l rfl g p he hp hl) rfl (ReadsC (Has.arg 0 rfl) Reads0) ?_
 refine rdx (rd_geq rfl rfl) ?_
 refine rdx (rd_assign (v := .bool _) rfl) ?_
 refine TO.nil (TQ.then_normal (T.ret ?_))
 refine TQ.value ?_ (res1 Tryz.results44 (Res.tmp (v := .bool _) rfl)) _ (.inl rfl)
 rfl
theorem c_badProxy (A : Option Addr) (cap n : Nat) (l : List Proxy) (hn : n = l.length) (hl : l.length ≤ 4611686018427387904) : Cv Tryz.prog 46 #[.slice A n cap] [slc proxyL 7 A l] (.int .i64 (ixInt (firstIx (formP l) l.length))) := by
 subst hn
 refine Ctr.intro Tryz.func46 rfl Tryz.ntmps46 (Nat.le_of_ble_eq_true rfl) fun S0 w0 => ?_
 refine T.seq (T.region ?_)
 refine rdx (rd_assign (v := .int _ _) rfl) ?_
 refine TO.nil (TQ.then_normal (T.seq (T.region ?_)))
 refine rdx (rd_move (v := .slice _ _ _) rfl) ?_
 refine TO.fn Tryz.enters83 (c_IndexFuncP _ _ _ l (by first | rfl | simp | omega) _ (fun x => !(proxyOk x)) Tryz.enters84 (fun x => c_badProxy1 x) (by first | omega | simp)) rfl (ReadsC (Has.arg 0 rfl) Reads0) ?_
 refine rdx (rd_assign (v := .int _ _) rfl) ?_
 refine TO.nil (TQ.then_normal (T.ret ?_))
 refine TQ.value ?_ (res1 Tryz.results46 (Res.tmp (v := .int _ _) rfl)) _ (.inl rfl)
 rfl
theorem c_wish_Formed (w : Wish) (A : Option Addr) (cap n : Nat) (l : List Proxy) (hn : n = l.length) (hl : l.length ≤ 4611686018427387904) : Cv Tryz.prog 17 #[wishV w, .slice A n cap] [slc proxyL 7 A l] (.bool (formedOk w l)) := by
 subst hn
 refine Ctr.intro Tryz.func17 rfl Tryz.ntmps17 (Nat.le_of_ble_eq_true rfl) fun S0 w0 => ?_
 refine T.seq (T.region ?_)
 refine TO.box (v := .agg #[.int _ _, .int _ _, .int _ _, .int _ _, .int _ _, .int _ _, .int _ _, .int _ _, .string _]) rfl (fun b1 => ?_)
 refine rdx (rd_assign (v := .bool _) rfl) ?_
 refine TO.nil (TQ.then_normal (T.seq (T.region ?_)))
 refine rdx (rd_load_agg (cs := #[.int _ _, .int _ _, .int _ _, .int _ _, .int _ _, .int _ _, .int _ _, .int _ _, .string _]) Tryz.agg30 rfl (Has.own 0 rfl) rfl rfl) ?_
 refine TO.fn Tryz.enters45 (c_wish_isWish _) rfl Reads0 ?_
 refine rdx (rd_move (v := .bool _) rfl) ?_
 refine TO.decide_ft (s := 7) rfl (fun h2 => ?_) (fun h2 => ?_)
 ·try simp only [nrm] at h2
  refine TO.guard_false (s := 7) (b' := false) rfl rfl nofun ?_
  refine TO.guard_false (s := 7) (b' := false) rfl rfl nofun ?_
  refine TO.guard_false (s := 7) (b' := false) rfl rfl nofun ?_
  refine rdx (rd_pick_false (v := .bool _) rfl rfl) ?_
  refine rdx (rd_move (v := .bool _) rfl) ?_
  refine TO.guard_false (s := 12) (b' := false) rfl rfl nofun ?_
  refine TO.guard_false (s := 12) (b' := false) rfl rfl nofun ?_
  refine TO.guard_false (s := 12) (b' := false) rfl rfl nofun ?_
  refine rdx (rd_pick_false (v := .bool _) rfl rfl) ?_
  refine rdx (rd_assign (v := .bool _) rfl) ?_
  refine TO.nil (TQ.then_normal (T.ret ?_))
  refine TQ.value ?_ (res1 Tryz.results17 (Res.tmp (v := .bool _) rfl)) _ (.inl rfl)
  rw [formedOk, formOk_eq]; simp_all <;> omega
 try simp only [nrm] at h2
 refine TO.guard_true (s := 7) rfl rfl ?_
 refine rdx (rd_move (v := .slice _ _ _) rfl) ?_
 refine TO.guard_true (s := 7) rfl rfl ?_
 refine rdx (rd_lensl Tryz.under31 rfl) ?_
 refine TO.guard_true (s := 7) rfl rfl ?_
 refine rdx (rd_leq rfl rfl) ?_
 refine rdx (rd_pick_true (v := .bool _) rfl rfl) ?_
 refine rdx (rd_move (v := .bool _) rfl) ?_
 refine TO.decide_ft (s := 12) rfl (fun h3 => ?_) (fun h3 => ?_)
 ·try simp only [nrm] at h3
  refine TO.guard_false (s := 12) (b' := false) rfl rfl nofun ?_
  refine TO.guard_false (s := 12) (b' := false) rfl rfl nofun ?_
  refine TO.guard_false (s := 12) (b' := false) rfl rfl nofun ?_
  refine rdx (rd_pick_false (v := .bool _) rfl rfl) ?_
  refine rdx (rd_assign (v := .bool _) rfl) ?_
  refine TO.nil (TQ.then_normal (T.ret ?_))
  refine TQ.value ?_ (res1 Tryz.results17 (Res.tmp (v := .bool _) rfl)) _ (.inl rfl)
  rw [formedOk, formOk_eq]; simp_all <;> omega
 try simp only [nrm] at h3
 refine TO.guard_true (s := 12) rfl rfl ?_
 refine rdx (rd_move (v := .slice _ _ _) rfl) ?_
 refine TO.guard_true (s := 12) rfl rfl ?_
 refine TO.fn Tryz.enters46 (c_badProxy _ _ _ l (by first | rfl | simp | omega) (by first | omega | assumption)) rfl (ReadsC (Has.arg 0 rfl) Reads0) ?_
 refine TO.guard_true (s := 12) rfl rfl ?_
 refine rdx (rd_lss rfl rfl) ?_
 refine rdx (rd_pick_true (v := .bool _) rfl rfl) ?_
 refine rdx (rd_assign (v := .bool _) rfl) ?_
 refine TO.nil (TQ.then_normal (T.ret ?_))
 refine TQ.value ?_ (res1 Tryz.results17 (Res.tmp (v := .bool _) rfl)) _ (.inl rfl)
 rw [formedOk, formOk_eq]; simp_all <;> omega
theorem c_wish_isIn (a b c d : Int) (p : Proxy) : Cv Tryz.prog 86 #[.agg #[.int .i64 a, .int .i64 b], .agg #[.int .i64 c, .int .i64 d], proxyV p] [] (.bool (inScope a b c d p)) := by
 refine Ctr.intro Tryz.func86 rfl Tryz.ntmps86 (Nat.le_of_ble_eq_true rfl) fun S0 w0 => ?_
 refine T.seq (T.region ?_)
 refine TO.box (v := .agg #[.int _ _, .int _ _]) rfl (fun b1 => ?_)
 refine TO.box (v := .agg #[.int _ _, .int _ _]) rfl (fun b2 => ?_)
 refine TO.box (v := .agg #[.int _ _, .int _ _, .int _ _, .int _ _, .int _ _, .int _ _, .string _]) rfl (fun b3 => ?_)
 refine rdx (rd_assign (v := .bool _) rfl) ?_
 refine TO.nil (TQ.then_normal (T.seq (T.region ?_)))
 refine rdx (rd_fieldAddr Tryz.field40_2 rfl) ?_
 refine rdx (rd_fieldAddr Tryz.field27_0 rfl) ?_
 refine rdx (rd_load (v := .int _ _) Tryz.one3 rfl (Has.own 0 rfl) rfl) ?_
 refine rdx (rd_fieldAddr Tryz.field27_0 rfl) ?_
 refine rdx (rd_load (v := .int _ _) Tryz.one3 rfl (Has.own 2 rfl) rfl) ?_
 refine rdx (rd_leq rfl rfl) ?_
 refine rdx (rd_move (v := .bool _) rfl) ?_
 refine TO.decide_ft (s := 13) rfl (fun h4 => ?_) (fun h4 => ?_)
 ·refine TO.guard_false (s := 13) (b' := false) rfl rfl nofun ?_
  refine TO.guard_false (s := 13) (b' := false) rfl rfl nofun ?_
  refine TO.guard_false (s := 13) (b' := false) rfl rfl nofun ?_
  refine TO.guard_false (s := 13) (b' := false) rfl rfl nofun ?_
  refine TO.guard_false (s := 13) (b' := false) rfl rfl nofun ?_
  refine TO.guard_false (s := 13) (b' := false) rfl rfl nofun ?_
  refine rdx (rd_pick_false (v := .bool _) rfl rfl) ?_
  refine rdx (rd_move (v := .bool _) rfl) ?_
  refine TO.guard_false (s := 21) (b' := false) rfl rfl nofun ?_
  refine TO.guard_false (s := 21) (b' := false) rfl rfl nofun ?_
  refine TO.guard_false (s := 21) (b' := false) rfl rfl nofun ?_
  refine TO.guard_false (s := 21) (b' := false) rfl rfl nofun ?_
  refine TO.guard_false (s := 21) (b' := false) rfl rfl nofun ?_
  refine TO.guard_false (s := 21) (b' := false) rfl rfl nofun ?_
  refine rdx (rd_pick_false (v := .bool _) rfl rfl) ?_
  refine rdx (rd_move (v := .bool _) rfl) ?_
  refine TO.guard_false (s := 29) (b' := false) rfl rfl nofun ?_
  refine TO.guard_false (s := 29) (b' := false) rfl rfl nofun ?_
  refine TO.guard_false (s := 29) (b' := false) rfl rfl nofun ?_
  refine TO.guard_false (s := 29) (b' := false) rfl rfl nofun ?_
  refine TO.guard_false (s := 29) (b' := false) rfl rfl nofun ?_
  refine TO.guard_false (s := 29) (b' := false) rfl rfl nofun ?_
  refine rdx (rd_pick_false (v := .bool _) rfl rfl) ?_
  refine rdx (rd_assign (v := .bool _) rfl) ?_
  refine TO.nil (TQ.then_normal (T.ret ?_))
  refine TQ.value ?_ (res1 Tryz.results86 (Res.tmp (v := .bool _) rfl)) _ (.inl rfl)
  show Value.bool _ = Value.bool _; simp [inScope, scopeOk, h4]
 refine TO.guard_true (s := 13) rfl rfl ?_
 refine rdx (rd_fieldAddr Tryz.field27_1 rfl) ?_
 refine TO.guard_true (s := 13) rfl rfl ?_
 refine rdx (rd_load (v := .int _ _) Tryz.one3 rfl (Has.own 2 rfl) rfl) ?_
 refine TO.guard_true (s := 13) rfl rfl ?_
 refine rdx (rd_fieldAddr Tryz.field40_2 rfl) ?_
 refine TO.guard_true (s := 13) rfl rfl ?_
 refine rdx (rd_fieldAddr Tryz.field27_1 rfl) ?_
 refine TO.guard_true (s := 13) rfl rfl ?_
 refine rdx (rd_load (v := .int _ _) Tryz.one3 rfl (Has.own 0 rfl) rfl) ?_
 refine TO.guard_true (s := 13) rfl rfl ?_
 refine rdx (rd_leq rfl rfl) ?_
 refine rdx (rd_pick_true (v := .bool _) rfl rfl) ?_
 refine rdx (rd_move (v := .bool _) rfl) ?_
 refine TO.decide_ft (s := 21) rfl (fun h5 => ?_) (fun h5 => ?_)
 ·refine TO.guard_false (s := 21) (b' := false) rfl rfl nofun ?_
  refine TO.guard_false (s := 21) (b' := false) rfl rfl nofun ?_
  refine TO.guard_false (s := 21) (b' := false) rfl rfl nofun ?_
  refine TO.guard_false (s := 21) (b' := false) rfl rfl nofun ?_
  refine TO.guard_false (s := 21) (b' := false) rfl rfl nofun ?_
  refine TO.guard_false (s := 21) (b' := false) rfl rfl nofun ?_
  refine rdx (rd_pick_false (v := .bool _) rfl rfl) ?_
  refine rdx (rd_move (v := .bool _) rfl) ?_
  refine TO.guard_false (s := 29) (b' := false) rfl rfl nofun ?_
  refine TO.guard_false (s := 29) (b' := false) rfl rfl nofun ?_
  refine TO.guard_false (s := 29) (b' := false) rfl rfl nofun ?_
  refine TO.guard_false (s := 29) (b' := false) rfl rfl nofun ?_
  refine TO.guard_false (s := 29) (b' := false) rfl rfl nofun ?_
  refine TO.guard_false (s := 29) (b' := false) rfl rfl nofun ?_
  refine rdx (rd_pick_false (v := .bool _) rfl rfl) ?_
  refine rdx (rd_assign (v := .bool _) rfl) ?_
  refine TO.nil (TQ.then_normal (T.ret ?_))
  refine TQ.value ?_ (res1 Tryz.results86 (Res.tmp (v := .bool _) rfl)) _ (.inl rfl)
  show Value.bool _ = Value.bool _; simp [inScope, scopeOk, h4, h5]
 refine TO.guard_true (s := 21) rfl rfl ?_
 refine rdx (rd_fieldAddr Tryz.field40_3 rfl) ?_
 refine TO.guard_true (s := 21) rfl rfl ?_
 refine rdx (rd_fieldAddr Tryz.field28_0 rfl) ?_
 refine TO.guard_true (s := 21) rfl rfl ?_
 refine rdx (rd_load (v := .int _ _) Tryz.one3 rfl (Has.own 0 rfl) rfl) ?_
 refine TO.guard_true (s := 21) rfl rfl ?_
 refine rdx (rd_fieldAddr Tryz.field28_0 rfl) ?_
 refine TO.guard_true (s := 21) rfl rfl ?_
 refine rdx (rd_load (v := .int _ _) Tryz.one3 rfl (Has.own 1 rfl) rfl) ?_
 refine TO.guard_true (s := 21) rfl rfl ?_
 refine rdx (rd_leq rfl rfl) ?_
 refine rdx (rd_pick_true (v := .bool _) rfl rfl) ?_
 refine rdx (rd_move (v := .bool _) rfl) ?_
 refine TO.decide_ft (s := 29) rfl (fun h6 => ?_) (fun h6 => ?_)
 ·refine TO.guard_false (s := 29) (b' := false) rfl rfl nofun ?_
  refine TO.guard_false (s := 29) (b' := false) rfl rfl nofun ?_
  refine TO.guard_false (s := 29) (b' := false) rfl rfl nofun ?_
  refine TO.guard_false (s := 29) (b' := false) rfl rfl nofun ?_
  refine TO.guard_false (s := 29) (b' := false) rfl rfl nofun ?_
  refine TO.guard_false (s := 29) (b' := false) rfl rfl nofun ?_
  refine rdx (rd_pick_false (v := .bool _) rfl rfl) ?_
  refine rdx (rd_assign (v := .bool _) rfl) ?_
  refine TO.nil (TQ.then_normal (T.ret ?_))
  refine TQ.value ?_ (res1 Tryz.results86 (Res.tmp (v := .bool _) rfl)) _ (.inl rfl)
  show Value.bool _ = Value.bool _; simp [inScope, scopeOk, h4, h5, h6]
 refine TO.guard_true (s := 29) rfl rfl ?_
 refine rdx (rd_fieldAddr Tryz.field28_1 rfl) ?_
 refine TO.guard_true (s := 29) rfl rfl ?_
 refine rdx (rd_load (v := .int _ _) Tryz.one3 rfl (Has.own 1 rfl) rfl) ?_
 refine TO.guard_true (s := 29) rfl rfl ?_
 refine rdx (rd_fieldAddr Tryz.field40_3 rfl) ?_
 refine TO.guard_true (s := 29) rfl rfl ?_
 refine rdx (rd_fieldAddr Tryz.field28_1 rfl) ?_
 refine TO.guard_true (s := 29) rfl rfl ?_
 refine rdx (rd_load (v := .int _ _) Tryz.one3 rfl (Has.own 0 rfl) rfl) ?_
 refine TO.guard_true (s := 29) rfl rfl ?_
 refine rdx (rd_leq rfl rfl) ?_
 refine rdx (rd_pick_true (v := .bool _) rfl rfl) ?_
 refine rdx (rd_assign (v := .bool _) rfl) ?_
 refine TO.nil (TQ.then_normal (T.ret ?_))
 refine TQ.value ?_ (res1 Tryz.results86 (Res.tmp (v := .bool _) rfl)) _ (.inl rfl)
 show Value.bool _ = Value.bool _; simp [inScope, scopeOk, h4, h5, h6]
end Go.Proofs
end
section
set_option linter.unusedVariables false
set_option linter.unusedSimpArgs false
set_option maxRecDepth 100000
set_option maxHeartbeats 800000
namespace Go.Proofs
open Go.TL
attribute [local irreducible] Go.TL.T Go.TL.TO Go.TL.TQ
theorem c_dec1_calm (b2 b3 b4 : Nat) : CalmD Tryz.prog 68 #[.pointer (some ⟨b2, 0, none⟩), .pointer (some ⟨b3, 0, none⟩), .pointer (some ⟨b4, 0, none⟩)] := by
 refine CalmD.intro Tryz.func68 rfl Tryz.ntmps68 (Nat.le_of_ble_eq_true rfl) rfl fun w0 => ?_
 refine T.block (T.seq (T.region ?_))
 refine rdx (rd_eqi_nil Tryz.under20 rfl rfl) ?_
 refine TO.nil (TQ.then_normal ?_)
 refine T.cond_true rfl ?_
 refine T.region ?_
 refine rdx (rd_assign (v := _) rfl) ?_
 refine TO.nil (TQ.block_normal ?_)
 exact TQ.calm (.inl rfl)
theorem c_dec1_mends (b2 b3 b4 : Nat) (c2 : List Value) (h2 : c2.length = 9) (v3 v4 : Value) : Mends Tryz.prog 68 #[.pointer (some ⟨b2, 0, none⟩), .pointer (some ⟨b3, 0, none⟩), .pointer (some ⟨b4, 0, none⟩)] (.iface 112 (.agg #[])) [own b2 c2.toArray 30, own b3 #[v3] 31, own b4 #[v4] 54] [own b2 (wishC wish0) 30, own b3 #[.slice none 0 0] 31, own b4 #[.int .i64 150] 54] := by
 refine Mends.intro Tryz.func68 rfl Tryz.ntmps68 (Nat.le_of_ble_eq_true rfl) rfl fun S0 w0 => ?_
 refine T.block (T.seq (T.region ?_))
 refine rdx (rd_eqi_some Tryz.under20 rfl rfl) ?_
 refine TO.nil (TQ.then_normal ?_)
 refine T.cond_false rfl ?_
 refine T.seq (T.region ?_)
 refine rdx (rd_assert' Tryz.notif112 rfl) ?_
 refine rdx (rd_extract (v := .bool _) (vs := _) rfl rfl) ?_
 refine rdx (rd_extract (v := .agg _) (vs := _) rfl rfl) ?_
 refine TO.nil (TQ.then_normal ?_)
 refine T.cond_true rfl ?_
 refine T.seq (T.region ?_)
 refine TO.alloc Tryz.zero112 (fun b1 => ?_)
 refine TO.store0 (cells' := #[]) Tryz.size112 rfl (v := .agg #[]) rfl rfl rfl (Nat.le_of_ble_eq_true rfl) rfl ?_
 refine TO.nil (TQ.then_normal (T.region ?_))
 refine rdx (rd_build (cs := [.int _ _, .int _ _, .int _ _, .int _ _, .int _ _, .int _ _, .int _ _, .int _ _, .string _]) Tryz.places30 Tryz.zero30 rfl rfl) ?_
 refine TO.front1 ?_
 refine TO.store_whole (cs := wishL wish0) Tryz.size30 rfl rfl rfl h2 rfl ?_
 refine TO.front2 ?_
 refine TO.store0 (cells' := #[.slice none 0 0]) Tryz.size31 rfl (v := .slice none 0 0) rfl rfl rfl (Nat.le_of_ble_eq_true rfl) rfl ?_
 refine TO.front3 ?_
 refine TO.store0 (cells' := #[.int .i64 150]) Tryz.size54 rfl (v := .int .i64 150) rfl rfl rfl (Nat.le_of_ble_eq_true rfl) rfl ?_
 refine TO.nil (TQ.block_normal ?_)
 exact TQ.mends (.inl rfl) (fun _ _ h => h.sel (js := [2, 1, 0]) (by decide))
end Go.Proofs
end
section
set_option linter.unusedVariables false
set_option linter.unusedSimpArgs false
set_option maxRecDepth 100000
set_option maxHeartbeats 800000
namespace Go.Proofs
open Go.TL
attribute [local irreducible] Go.TL.T Go.TL.TO Go.TL.TQ
theorem c_wish_Decode (s : Bytes) (hs : s.length ≤ 1000000000000) : Ctr Tryz.prog 26 #[.string (str s)] [] [] (γ := Option Addr × Nat) (fun x => True) (fun x => .tuple #[wishV (decodeOf s).1, .slice x.1 (decodeOf s).2.1.length x.2, .int .i64 (decodeOf s).2.2]) (fun x => [row 40 7 x.1 (decodeOf s).2.1.length x.2 ((decodeOf s).2.1.flatMap proxyL)]) := by
 refine Ctr.introD Tryz.func26 rfl Tryz.ntmps26 (Nat.le_of_ble_eq_true rfl) fun S0 w0 => ?_
 refine T.seq (T.region ?_)
 refine TO.alloc Tryz.zero30 (fun b1 => ?_)
 refine TO.alloc Tryz.zero31 (fun b2 => ?_)
 refine TO.newrow 40 7 ?_
 refine TO.alloc Tryz.zero54 (fun b3 => ?_)
 refine TO.nil (TQ.then_normal (T.seq (T.region ?_)))
 refine rdx (rd_clo (b := [_, _, _]) rfl) ?_
 refine TO.defer rfl ?_
 refine TO.nil (TQ.then_normal (T.seq (T.region ?_)))
 refine rdx (rd_move (v := .string _) rfl) ?_
 refine rdx (rd_build (cs := [.string _, .int _ _]) Tryz.places115 Tryz.zero115 rfl rfl) ?_
 refine TO.box (v := .agg #[.string _, .int _ _]) rfl (fun b4 => ?_)
 refine TO.own_eq (cells' := #[.string (str s), .int .i64 ((0 : Nat) : Int)]) (by rfl) ?_
 refine rdx (rd_assign (v := .pointer _) rfl) ?_
 refine TO.nil (TQ.then_normal (T.seq (T.region ?_)))
 refine rdx (rd_move (v := .pointer _) rfl) ?_
 refine TO.handX Tryz.enters69 rfl (c_rd_number _ _ _ hs) rfl rfl Reads0 (fun hp7 => ?_) (fun ⟨m, a1⟩ hm => ?_)
 ·refine TQ.then_panic ?_
  have hd : decodeOf s = (wish0, [], 150) := dec1 hp7
  refine TQ.front2 ?_
  refine TQ.front3 ?_
  exact TQ.panicD Tryz.enters68 (c_dec1_mends _ _ _ _ (by first | rfl | (rw [NC_len (by omega)])) _ _) rfl (none, 0) trivial (by rw [hd]; rfl) (fun S w h => by rw [hd]; exact one_seps nil_row) (res3 Tryz.results26 (Res.cells (cs := wishC wish0) Tryz.agg30 rfl (Has.own 0 rfl) rfl rfl) (Res.cell (v := .slice none 0 0) Tryz.one31 rfl (Has.own 1 rfl) rfl) (Res.cell (v := .int .i64 150) Tryz.one54 rfl (Has.own 2 rfl) rfl))
 refine rdx (rd_assign (v := .int _ _) rfl) ?_
 refine TO.nil (TQ.then_normal (T.seq (T.seq (T.region ?_))))
 refine rdx (rd_move (v := .int _ _) rfl) ?_
 refine TO.fn Tryz.enters47 (c_wish_isWithin _ _ _) rfl Reads0 ?_
 refine rdx (rd_not rfl) ?_
 refine TO.nil (TQ.then_normal ?_)
 refine T.cond rfl (fun h8 => ?_) (fun h8 => ?_)
 ·try simp only [nrm] at h8
  refine T.region ?_
  refine rdx (rd_build (cs := []) Tryz.places112 Tryz.zero112 rfl rfl) ?_
  refine rdx (rd_makeIface' Tryz.notif112 rfl) ?_
  refine TO.panic rfl ?_
  refine TQ.then_panic ?_
  have hd : decodeOf s = (wish0, [], 150) := dec2 hm h8
  refine TQ.front1 ?_
  refine TQ.front3 ?_
  refine TQ.front4 ?_
  exact TQ.panicD Tryz.enters68 (c_dec1_mends _ _ _ _ (by first | rfl | (rw [NC_len (by omega)])) _ _) rfl (none, 0) trivial (by rw [hd]; rfl) (fun S w h => by rw [hd]; exact one_seps nil_row) (res3 Tryz.results26 (Res.cells (cs := wishC wish0) Tryz.agg30 rfl (Has.own 0 rfl) rfl rfl) (Res.cell (v := .slice none 0 0) Tryz.one31 rfl (Has.own 1 rfl) rfl) (Res.cell (v := .int .i64 150) Tryz.one54 rfl (Has.own 2 rfl) rfl))
 try simp only [nrm] at h8
 refine T.skip (TQ.then_normal (T.seq (T.seq (T.region ?_))))
 refine rdx (rd_move (v := .int _ _) rfl) ?_
 have hwt := h8
 have hm4 : 0 ≤ m ∧ m ≤ 4 := by have hq := hwt; simp only [within, Bool.and_eq_true, decide_eq_true_eq] at hq; exact hq
 refine rdx (rd_move (v := .int _ _) rfl) ?_
 refine TO.nil (TQ.then_normal (T.block ?_))
 refine T.front2 ?_
 refine T.front3 ?_
 refine T.front2 ?_
 refine T.loop5 [0, 2, 3, 4, 5, 23] (fun (A : Option Addr) (cap : Nat) (k : Nat) (l : List Proxy) (a : Nat) => [(24, .int .i64 (k : Nat))]) (fun (A : Option Addr) (cap : Nat) (k : Nat) (l : List Proxy) (a : Nat) => [own b4 #[.string (str s), .int .i64 ((a : Nat) : Int)] 115, own b2 #[.slice A k cap] 31, row 40 7 A k cap (l.flatMap proxyL)]) (fun (A : Option Addr) (cap : Nat) (k : Nat) (l : List Proxy) (a : Nat) => rdPs s k a1 = some (l, a) ∧ l.length = k ∧ k ≤ m.toNat) (fun (A : Option Addr) (cap : Nat) (k : Nat) (l : List Proxy) (a : Nat) => m.toNat - k) (none) (0) (0) ([]) (a1) (⟨rfl, rfl, Nat.zero_le _⟩) (And.intro (rfl) (trivial)) (fun _ _ h => h) fun A cap k l a g0 hx0 => ?_
 obtain ⟨hps, hlk, hkm⟩ := hx0
 refine T.seq (T.region ?_)
 refine rdx (rd_lss rfl rfl) ?_
 refine TO.nil (TQ.then_normal (T.seq ?_))
 refine T.cond rfl (fun h9 => ?_) (fun h9 => ?_)
 ·try simp only [nrm] at h9
  refine T.skip (TQ.then_normal (T.seq (T.block (T.seq (T.region ?_)))))
  refine TO.alloc Tryz.zero40 (fun b10 => ?_)
  refine TO.nil (TQ.then_normal (T.seq (T.region ?_)))
  refine rdx (rd_move (v := .pointer _) rfl) ?_
  refine TO.front1 ?_
  refine TO.handX Tryz.enters70 rfl (c_rd_kind _ _ _ hs _) rfl rfl Reads0 (fun hp13 => ?_) (fun b1n hb => ?_)
  ·refine TQ.then_panic ?_
   refine TQ.block_panic ?_
   refine TQ.then_panic ?_
   refine TQ.then_panic ?_
   refine TQ.block_panic ?_
   refine TQ.then_panic ?_
   have hd : decodeOf s = (wish0, [], 150) := dec3 hm hps (by omega) (by rw [rdP, hp13]; rfl)
   refine TQ.front3 ?_
   refine TQ.front2 ?_
   refine TQ.front4 ?_
   exact TQ.panicD Tryz.enters68 (c_dec1_mends _ _ _ _ (by first | rfl | (rw [NC_len (by omega)])) _ _) rfl (none, 0) trivial (by rw [hd]; rfl) (fun S w h => by rw [hd]; exact one_seps nil_row) (res3 Tryz.results26 (Res.cells (cs := wishC wish0) Tryz.agg30 rfl (Has.own 0 rfl) rfl rfl) (Res.cell (v := .slice none 0 0) Tryz.one31 rfl (Has.own 1 rfl) rfl) (Res.cell (v := .int .i64 150) Tryz.one54 rfl (Has.own 2 rfl) rfl))
  refine TO.nil (TQ.then_normal (T.seq (T.seq (T.region ?_))))
  refine rdx (rd_fieldAddr Tryz.field40_0 rfl) ?_
  refine rdx (rd_fieldAddr Tryz.field40_1 rfl) ?_
  refine rdx (rd_fieldAddr Tryz.field40_2 rfl) ?_
  refine rdx (rd_fieldAddr Tryz.field27_0 rfl) ?_
  refine rdx (rd_fieldAddr Tryz.field40_2 rfl) ?_
  refine rdx (rd_fieldAddr Tryz.field27_1 rfl) ?_
  refine rdx (rd_fieldAddr Tryz.field40_3 rfl) ?_
  refine rdx (rd_fieldAddr Tryz.field28_0 rfl) ?_
  refine rdx (rd_fieldAddr Tryz.field40_3 rfl) ?_
  refine rdx (rd_fieldAddr Tryz.field28_1 rfl) ?_
  refine rdx (rd_builda (cs := [.pointer _, .pointer _, .pointer _, .pointer _, .pointer _, .pointer _]) Tryz.under119 Tryz.size118 Tryz.zero119 rfl rfl) ?_
  refine rdx (rd_move (v := .int _ _) rfl) ?_
  refine TO.nil (TQ.then_normal (T.block ?_))
  refine T.front1 ?_
  refine T.front1 ?_
  refine T.loop3 [0, 2, 3, 4, 5, 7, 23, 24, 38] (fun (j : Nat) (nums : List Int) (c : Nat) => [(39, .int .i64 (j : Nat))]) (fun (j : Nat) (nums : List Int) (c : Nat) => [own b4 #[.string (str s), .int .i64 ((c : Nat) : Int)] 115, own b10 (NC 6 nums).toArray 40]) (fun (j : Nat) (nums : List Int) (c : Nat) => rdNs s j b1n = some (nums, c) ∧ j ≤ 6) (fun (j : Nat) (nums : List Int) (c : Nat) => 6 - j) (0) ([]) (b1n) (⟨rfl, Nat.zero_le _⟩) (And.intro (rfl) (trivial)) (fun _ _ h => h) fun j nums c g1 hx1 => ?_
  obtain ⟨hns, hj⟩ := hx1
  have hnl : nums.length = j := rdNs_len hns
  refine T.seq (T.region ?_)
  refine rdx (rd_lss rfl rfl) ?_
  refine TO.nil (TQ.then_normal (T.seq ?_))
  refine T.cond rfl (fun h14 => ?_) (fun h14 => ?_)
  ·try simp only [nrm] at h14
   refine T.skip (TQ.then_normal (T.seq (T.block (T.seq (T.region ?_)))))
   refine rdx (rd_index_arr j (v := .pointer (some ⟨b10, j, none⟩)) Tryz.under119 Tryz.one118 Tryz.size118 rfl rfl rfl (by omega) (ptr6 (by omega))) ?_
   refine rdx (rd_assign (v := .pointer _) rfl) ?_
   refine TO.nil (TQ.then_normal (T.region ?_))
   refine rdx (rd_move (v := .pointer _) rfl) ?_
   refine rdx (rd_move (v := .pointer _) rfl) ?_
   refine TO.handX Tryz.enters69 rfl (c_rd_number _ _ _ hs) rfl rfl Reads0 (fun hp17 => ?_) (fun ⟨v, c1⟩ hv => ?_)
   ·refine TQ.block_panic ?_
    refine TQ.then_panic ?_
    refine TQ.then_panic ?_
    refine TQ.block_panic ?_
    refine TQ.then_panic ?_
    refine TQ.block_panic ?_
    refine TQ.then_panic ?_
    refine TQ.then_panic ?_
    refine TQ.block_panic ?_
    refine TQ.then_panic ?_
    have hd : decodeOf s = (wish0, [], 150) := dec3 hm hps (by omega) (by rw [rdP, hb, Option.bind_some, rdNs_none hns hp17 (by omega)]; rfl)
    refine TQ.front3 ?_
    refine TQ.front2 ?_
    refine TQ.front4 ?_
    exact TQ.panicD Tryz.enters68 (c_dec1_mends _ _ _ _ (by first | rfl | (rw [NC_len (by omega)])) _ _) rfl (none, 0) trivial (by rw [hd]; rfl) (fun S w h => by rw [hd]; exact one_seps nil_row) (res3 Tryz.results26 (Res.cells (cs := wishC wish0) Tryz.agg30 rfl (Has.own 0 rfl) rfl rfl) (Res.cell (v := .slice none 0 0) Tryz.one31 rfl (Has.own 1 rfl) rfl) (Res.cell (v := .int .i64 150) Tryz.one54 rfl (Has.own 2 rfl) rfl))
   refine rdx (rd_nilCheck rfl) ?_
   refine TO.front1 ?_
   refine TO.store0 (o := j) (cells' := (NC 6 (nums ++ [v])).toArray) (v := .int .i64 v) Tryz.size3 rfl rfl rfl (by exact over_num hnl (by omega)) (by rw [List.size_toArray, NC_len (by omega)]; omega) rfl ?_
   refine TO.nil (TQ.block_normal (TQ.then_normal (T.region ?_)))
   refine rdx (rd_add rfl rfl (w64 (by omega) (by omega))) ?_
   refine rdx (rd_move (v := .int _ _) rfl) ?_
   refine TO.nil ?_
   refine TQ.againk (j + 1, nums ++ [v], c1) ?_ ?_ (And.intro (rfl) (trivial)) (And.intro (rfl) (And.intro (rfl) (And.intro (rfl) (And.intro (rfl) (And.intro (rfl) (And.intro (rfl) (And.intro (rfl) (And.intro (rfl) (And.intro (rfl) (trivial)))))))))) (fun _ _ h => h.sel (js := [1, 0, 2, 3, 4, 5]) (by decide))
   ·exact ⟨by simp only [rdNs, hns, Option.bind_some, hv], by dsimp only; omega⟩
   ·first | omega | (dsimp only; omega)
  try simp only [nrm] at h14
  refine T.exit (TQ.then_exit (TQ.then_exit (TQ.block_out (TQ.then_normal (T.seq (T.region ?_))))))
  refine rdx (rd_move (v := .pointer _) rfl) ?_
  have hj6 : j = 6 := by omega
  have hle1 : c ≤ s.length := rdNs_le hns (rdK_next hb)
  refine TO.handX Tryz.enters71 rfl (c_rd_digest _ _ _ hs (by first | assumption | omega)) rfl rfl Reads0 (fun hp20 => ?_) (fun ⟨g, a2⟩ hg => ?_)
  ·refine TQ.then_panic ?_
   refine TQ.block_panic ?_
   refine TQ.then_panic ?_
   refine TQ.then_panic ?_
   refine TQ.block_panic ?_
   refine TQ.then_panic ?_
   have hd : decodeOf s = (wish0, [], 150) := dec3 hm hps (by omega) (by rw [rdP, hb, Option.bind_some, ← hj6, hns, Option.bind_some, hp20]; rfl)
   refine TQ.front3 ?_
   refine TQ.front2 ?_
   refine TQ.front4 ?_
   exact TQ.panicD Tryz.enters68 (c_dec1_mends _ _ _ _ (by first | rfl | (rw [NC_len (by omega)])) _ _) rfl (none, 0) trivial (by rw [hd]; rfl) (fun S w h => by rw [hd]; exact one_seps nil_row) (res3 Tryz.results26 (Res.cells (cs := wishC wish0) Tryz.agg30 rfl (Has.own 0 rfl) rfl rfl) (Res.cell (v := .slice none 0 0) Tryz.one31 rfl (Has.own 1 rfl) rfl) (Res.cell (v := .int .i64 150) Tryz.one54 rfl (Has.own 2 rfl) rfl))
  refine rdx (rd_fieldAddr Tryz.field40_4 rfl) ?_
  refine TO.front1 ?_
  refine TO.own_eq (cells' := proxyC (proxyOf nums [])) (by rw [NC6 (by omega)]; rfl) ?_
  refine TO.store0 (cells' := #[.int _ _, .int _ _, .int _ _, .int _ _, .int _ _, .int _ _, .string _]) Tryz.size9 rfl (v := .string _) rfl rfl rfl (Nat.le_of_ble_eq_true rfl) rfl ?_
  refine TO.nil (TQ.then_normal (T.region ?_))
  refine rdx (rd_load (v := .slice _ _ _) Tryz.one31 rfl (Has.own 2 rfl) rfl) ?_
  refine rdx (rd_load_agg (cs := proxyC (proxyOf nums g)) Tryz.agg40 rfl (Has.own 0 rfl) rfl rfl) ?_
  refine TO.buildS (cs := [.int _ _, .int _ _, .int _ _, .int _ _, .int _ _, .int _ _, .string _]) Tryz.under31 Tryz.size40 Tryz.zero40 (Nat.le_of_ble_eq_true rfl) rfl (fun b21 => ?_)
  refine TO.front4 ?_
  refine TO.app Tryz.trow40 Tryz.under31 (.inl ⟨_, Tryz.under31⟩) rfl rfl (Src.own1 1 rfl rfl) rfl rfl (by omega) (fun A22 c23 hc24 => ?_)
  refine TO.row_eq (k' := k + 1) (cs' := (l ++ [proxyOf nums g]).flatMap proxyL) rfl (by rw [List.flatMap_append]; rfl) ?_
  refine TO.front4 ?_
  refine TO.store0 (cells' := #[.slice _ _ _]) Tryz.size31 rfl (v := .slice _ _ _) rfl rfl rfl (Nat.le_of_ble_eq_true rfl) rfl ?_
  refine TO.nil (TQ.block_normal (TQ.then_normal (T.region ?_)))
  refine rdx (rd_add rfl rfl (w64 (by omega) (by omega))) ?_
  refine rdx (rd_move (v := .int _ _) rfl) ?_
  refine TO.nil ?_
  refine TQ.againk (A22, c23, k + 1, l ++ [proxyOf nums g], a2) ?_ ?_ (And.intro (rfl) (trivial)) (And.intro (rfl) (And.intro (rfl) (And.intro (rfl) (And.intro (rfl) (And.intro (rfl) (And.intro (rfl) (trivial))))))) (fun _ _ h => h.sel (js := [4, 0, 1, 5, 6]) (by decide))
  ·refine ⟨?_, by dsimp only; rw [List.length_append, hlk]; rfl, by dsimp only; omega⟩
   simp only [rdPs, hps, Option.bind_some, rdP, hb, ← hj6, hns, hg]
  ·first | omega | (dsimp only; omega)
 try simp only [nrm] at h9
 refine T.exit (TQ.then_exit (TQ.then_exit (TQ.block_out (TQ.then_normal (T.seq (T.region ?_))))))
 refine rdx (rd_move (v := .pointer _) rfl) ?_
 refine TO.handX Tryz.enters70 rfl (c_rd_kind _ _ _ hs _) rfl rfl Reads0 (fun hp27 => ?_) (fun b2n hb2 => ?_)
 ·refine TQ.then_panic ?_
  have hd : decodeOf s = (wish0, [], 150) := dec4 hm hps (by omega) (by rw [rdW, hp27]; rfl)
  refine TQ.front2 ?_
  refine TQ.front1 ?_
  refine TQ.front3 ?_
  exact TQ.panicD Tryz.enters68 (c_dec1_mends _ _ _ _ (by first | rfl | (rw [NC_len (by omega)])) _ _) rfl (none, 0) trivial (by rw [hd]; rfl) (fun S w h => by rw [hd]; exact one_seps nil_row) (res3 Tryz.results26 (Res.cells (cs := wishC wish0) Tryz.agg30 rfl (Has.own 0 rfl) rfl rfl) (Res.cell (v := .slice none 0 0) Tryz.one31 rfl (Has.own 1 rfl) rfl) (Res.cell (v := .int .i64 150) Tryz.one54 rfl (Has.own 2 rfl) rfl))
 refine TO.nil (TQ.then_normal (T.seq (T.seq (T.region ?_))))
 refine rdx (rd_fieldAddr Tryz.field30_0 rfl) ?_
 refine rdx (rd_fieldAddr Tryz.field30_1 rfl) ?_
 refine rdx (rd_fieldAddr Tryz.field30_2 rfl) ?_
 refine rdx (rd_fieldAddr Tryz.field27_0 rfl) ?_
 refine rdx (rd_fieldAddr Tryz.field30_2 rfl) ?_
 refine rdx (rd_fieldAddr Tryz.field27_1 rfl) ?_
 refine rdx (rd_fieldAddr Tryz.field30_3 rfl) ?_
 refine rdx (rd_fieldAddr Tryz.field30_4 rfl) ?_
 refine rdx (rd_fieldAddr Tryz.field30_5 rfl) ?_
 refine rdx (rd_fieldAddr Tryz.field28_0 rfl) ?_
 refine rdx (rd_fieldAddr Tryz.field30_5 rfl) ?_
 refine rdx (rd_fieldAddr Tryz.field28_1 rfl) ?_
 refine rdx (rd_builda (cs := [.pointer _, .pointer _, .pointer _, .pointer _, .pointer _, .pointer _, .pointer _, .pointer _]) Tryz.under120 Tryz.size118 Tryz.zero120 rfl rfl) ?_
 refine rdx (rd_move (v := .int _ _) rfl) ?_
 refine TO.nil (TQ.then_normal (T.block ?_))
 refine T.front4 ?_
 refine T.front1 ?_
 refine T.loop3 [0, 2, 3, 4, 5, 69] (fun (j : Nat) (nums : List Int) (c : Nat) => [(70, .int .i64 (j : Nat))]) (fun (j : Nat) (nums : List Int) (c : Nat) => [own b4 #[.string (str s), .int .i64 ((c : Nat) : Int)] 115, own b1 (NC 8 nums).toArray 30]) (fun (j : Nat) (nums : List Int) (c : Nat) => rdNs s j b2n = some (nums, c) ∧ j ≤ 8) (fun (j : Nat) (nums : List Int) (c : Nat) => 8 - j) (0) ([]) (b2n) (⟨rfl, Nat.zero_le _⟩) (And.intro (rfl) (trivial)) (fun _ _ h => h) fun j nums c g2 hx2 => ?_
 obtain ⟨hns, hj⟩ := hx2
 have hnl : nums.length = j := rdNs_len hns
 refine T.seq (T.region ?_)
 refine rdx (rd_lss rfl rfl) ?_
 refine TO.nil (TQ.then_normal (T.seq ?_))
 refine T.cond rfl (fun h28 => ?_) (fun h28 => ?_)
 ·try simp only [nrm] at h28
  refine T.skip (TQ.then_normal (T.seq (T.block (T.seq (T.region ?_)))))
  refine rdx (rd_index_arr j (v := .pointer (some ⟨b1, j, none⟩)) Tryz.under120 Tryz.one118 Tryz.size118 rfl rfl rfl (by omega) (ptr8 (by omega))) ?_
  refine rdx (rd_assign (v := .pointer _) rfl) ?_
  refine TO.nil (TQ.then_normal (T.region ?_))
  refine rdx (rd_move (v := .pointer _) rfl) ?_
  refine rdx (rd_move (v := .pointer _) rfl) ?_
  refine TO.handX Tryz.enters69 rfl (c_rd_number _ _ _ hs) rfl rfl Reads0 (fun hp31 => ?_) (fun ⟨v2, c2⟩ hv2 => ?_)
  ·refine TQ.block_panic ?_
   refine TQ.then_panic ?_
   refine TQ.then_panic ?_
   refine TQ.block_panic ?_
   refine TQ.then_panic ?_
   have hd : decodeOf s = (wish0, [], 150) := dec4 hm hps (by omega) (by rw [rdW, hb2, Option.bind_some, rdNs_none hns hp31 (by omega)]; rfl)
   refine TQ.front3 ?_
   refine TQ.front2 ?_
   refine TQ.front2 ?_
   exact TQ.panicD Tryz.enters68 (c_dec1_mends _ _ _ _ (by first | rfl | (rw [NC_len (by omega)])) _ _) rfl (none, 0) trivial (by rw [hd]; rfl) (fun S w h => by rw [hd]; exact one_seps nil_row) (res3 Tryz.results26 (Res.cells (cs := wishC wish0) Tryz.agg30 rfl (Has.own 0 rfl) rfl rfl) (Res.cell (v := .slice none 0 0) Tryz.one31 rfl (Has.own 1 rfl) rfl) (Res.cell (v := .int .i64 150) Tryz.one54 rfl (Has.own 2 rfl) rfl))
  refine rdx (rd_nilCheck rfl) ?_
  refine TO.front1 ?_
  refine TO.store0 (o := j) (cells' := (NC 8 (nums ++ [v2])).toArray) (v := .int .i64 v2) Tryz.size3 rfl rfl rfl (by exact over_num hnl (by omega)) (by rw [List.size_toArray, NC_len (by omega)]; omega) rfl ?_
  refine TO.nil (TQ.block_normal (TQ.then_normal (T.region ?_)))
  refine rdx (rd_add rfl rfl (w64 (by omega) (by omega))) ?_
  refine rdx (rd_move (v := .int _ _) rfl) ?_
  refine TO.nil ?_
  refine TQ.againk (j + 1, nums ++ [v2], c2) ?_ ?_ (And.intro (rfl) (trivial)) (And.intro (rfl) (And.intro (rfl) (And.intro (rfl) (And.intro (rfl) (And.intro (rfl) (And.intro (rfl) (trivial))))))) (fun _ _ h => h.sel (js := [1, 0, 2, 3, 4]) (by decide))
  ·exact ⟨by simp only [rdNs, hns, Option.bind_some, hv2], by dsimp only; omega⟩
  ·first | omega | (dsimp only; omega)
 try simp only [nrm] at h28
 refine T.exit (TQ.then_exit (TQ.then_exit (TQ.block_out (TQ.then_normal (T.seq (T.region ?_))))))
 refine rdx (rd_move (v := .pointer _) rfl) ?_
 have hj8 : j = 8 := by omega
 have hle2 : c ≤ s.length := rdNs_le hns (rdK_next hb2)
 refine TO.handX Tryz.enters71 rfl (c_rd_digest _ _ _ hs (by first | assumption | omega)) rfl rfl Reads0 (fun hp34 => ?_) (fun ⟨g2, a3⟩ hg2 => ?_)
 ·refine TQ.then_panic ?_
  have hd : decodeOf s = (wish0, [], 150) := dec4 hm hps (by omega) (by rw [rdW, hb2, Option.bind_some, ← hj8, hns, Option.bind_some, hp34]; rfl)
  refine TQ.front3 ?_
  refine TQ.front2 ?_
  refine TQ.front2 ?_
  exact TQ.panicD Tryz.enters68 (c_dec1_mends _ _ _ _ (by first | rfl | (rw [NC_len (by omega)])) _ _) rfl (none, 0) trivial (by rw [hd]; rfl) (fun S w h => by rw [hd]; exact one_seps nil_row) (res3 Tryz.results26 (Res.cells (cs := wishC wish0) Tryz.agg30 rfl (Has.own 0 rfl) rfl rfl) (Res.cell (v := .slice none 0 0) Tryz.one31 rfl (Has.own 1 rfl) rfl) (Res.cell (v := .int .i64 150) Tryz.one54 rfl (Has.own 2 rfl) rfl))
 refine rdx (rd_fieldAddr Tryz.field30_6 rfl) ?_
 refine TO.front1 ?_
 refine TO.own_eq (cells' := wishC (wishOf nums [])) (by rw [NC8 (by omega)]; rfl) ?_
 refine TO.store0 (cells' := #[.int _ _, .int _ _, .int _ _, .int _ _, .int _ _, .int _ _, .int _ _, .int _ _, .string _]) Tryz.size9 rfl (v := .string _) rfl rfl rfl (Nat.le_of_ble_eq_true rfl) rfl ?_
 refine TO.nil (TQ.then_normal (T.seq (T.seq (T.region ?_))))
 refine rdx (rd_move (v := .pointer _) rfl) ?_
 have hW : rdW s a = some (wishOf nums g2, a3) := by simp only [rdW, hb2, Option.bind_some, ← hj8, hns, hg2]
 refine rdx (rd_nilCheck rfl) ?_
 refine rdx (rd_fieldAddr Tryz.field115_1 rfl) ?_
 refine rdx (rd_load (v := .int _ _) Tryz.one3 rfl (Has.own 1 rfl) rfl) ?_
 refine rdx (rd_move (v := .string _) rfl) ?_
 refine rdx (rd_lens' Tryz.under9 rfl) ?_
 refine rdx (rd_lss rfl rfl) ?_
 refine rdx (rd_move (v := .bool _) rfl) ?_
 refine TO.decide (s := 88) rfl (fun h35 => ?_) (fun h35 => ?_)
 ·try simp only [nrm] at h35
  refine TO.guard_false (s := 88) (b' := true) rfl rfl nofun ?_
  refine TO.guard_false (s := 88) (b' := true) rfl rfl nofun ?_
  refine TO.guard_false (s := 88) (b' := true) rfl rfl nofun ?_
  refine TO.guard_false (s := 88) (b' := true) rfl rfl nofun ?_
  refine rdx (rd_pick_true (v := .bool _) rfl rfl) ?_
  refine TO.nil (TQ.then_normal ?_)
  refine T.cond_true rfl ?_
  refine T.region ?_
  refine rdx (rd_build (cs := []) Tryz.places112 Tryz.zero112 rfl rfl) ?_
  refine rdx (rd_makeIface' Tryz.notif112 rfl) ?_
  refine TO.panic rfl ?_
  refine TQ.then_panic ?_
  have hd : decodeOf s = (wish0, [], 150) := by rw [dec5 hm hwt hps (by omega) hW, if_pos (.inl (by omega))]
  refine TQ.front4 ?_
  refine TQ.front3 ?_
  refine TQ.front2 ?_
  exact TQ.panicD Tryz.enters68 (c_dec1_mends _ _ _ _ (by first | rfl | (rw [NC_len (by omega)])) _ _) rfl (none, 0) trivial (by rw [hd]; rfl) (fun S w h => by rw [hd]; exact one_seps nil_row) (res3 Tryz.results26 (Res.cells (cs := wishC wish0) Tryz.agg30 rfl (Has.own 0 rfl) rfl rfl) (Res.cell (v := .slice none 0 0) Tryz.one31 rfl (Has.own 1 rfl) rfl) (Res.cell (v := .int .i64 150) Tryz.one54 rfl (Has.own 2 rfl) rfl))
 try simp only [nrm] at h35
 refine TO.guard_true (s := 88) rfl rfl ?_
 refine rdx (rd_load_agg (cs := #[.int _ _, .int _ _, .int _ _, .int _ _, .int _ _, .int _ _, .int _ _, .int _ _, .string _]) Tryz.agg30 rfl (Has.own 0 rfl) rfl rfl) ?_
 refine TO.guard_true (s := 88) rfl rfl ?_
 refine rdx (rd_load (v := .slice _ _ _) Tryz.one31 rfl (Has.own 2 rfl) rfl) ?_
 refine TO.guard_true (s := 88) rfl rfl ?_
 refine TO.fn Tryz.enters17 (c_wish_Formed (wishOf nums g2) _ _ _ l (by first | rfl | simp | omega) (by first | omega | assumption | simp)) rfl (ReadsC (row_slc' (e := proxyL) (xs := l) (fun _ => rfl) (hlk.symm) (rfl) (Has.own 3 rfl)) Reads0) ?_
 refine TO.guard_true (s := 88) rfl rfl ?_
 refine rdx (rd_not rfl) ?_
 refine rdx (rd_pick_false (v := .bool _) rfl rfl) ?_
 refine TO.nil (TQ.then_normal ?_)
 refine T.cond rfl (fun h36 => ?_) (fun h36 => ?_)
 ·try simp only [nrm] at h36
  refine T.region ?_
  refine rdx (rd_build (cs := []) Tryz.places112 Tryz.zero112 rfl rfl) ?_
  refine rdx (rd_makeIface' Tryz.notif112 rfl) ?_
  refine TO.panic rfl ?_
  refine TQ.then_panic ?_
  have hd : decodeOf s = (wish0, [], 150) := by rw [dec5 hm hwt hps (by omega) hW, if_pos (.inr h36)]
  refine TQ.front4 ?_
  refine TQ.front3 ?_
  refine TQ.front2 ?_
  exact TQ.panicD Tryz.enters68 (c_dec1_mends _ _ _ _ (by first | rfl | (rw [NC_len (by omega)])) _ _) rfl (none, 0) trivial (by rw [hd]; rfl) (fun S w h => by rw [hd]; exact one_seps nil_row) (res3 Tryz.results26 (Res.cells (cs := wishC wish0) Tryz.agg30 rfl (Has.own 0 rfl) rfl rfl) (Res.cell (v := .slice none 0 0) Tryz.one31 rfl (Has.own 1 rfl) rfl) (Res.cell (v := .int .i64 150) Tryz.one54 rfl (Has.own 2 rfl) rfl))
 try simp only [nrm] at h36
 refine T.skip (TQ.then_normal (T.seq ?_))
 refine T.drawq Tryz.mixes 3 [(96, 0), (97, 1)] [0, 0, 1, 7, 15] (by kernel_rfl) ?_
 refine DQ.rd rfl rfl (fun _ => rd_load_agg (cs := #[.int _ _, .int _ _, .int _ _, .int _ _, .int _ _, .int _ _, .int _ _, .int _ _, .string _]) Tryz.agg30 rfl (Has.own 0 rfl) rfl rfl) ?_
 refine DQ.rd rfl rfl (fun _ => rd_load (v := .slice _ _ _) Tryz.one31 rfl (Has.own 2 rfl) rfl) ?_
 refine DQ.self (jj := 0) (cs := wishL (wishOf nums g2)) rfl Tryz.size30 (fun _ => rfl) (fun _ => rfl) rfl rfl rfl ?_
 refine DQ.done rfl ?_
 refine TO.front2 ?_
 refine TO.store0 (cells' := #[.slice _ _ _]) Tryz.size31 rfl (v := .slice _ _ _) rfl rfl rfl (Nat.le_of_ble_eq_true rfl) rfl ?_
 refine TO.front4 ?_
 refine TO.store0 (cells' := #[.int _ _]) Tryz.size54 rfl (v := .int _ _) rfl rfl rfl (Nat.le_of_ble_eq_true rfl) rfl ?_
 refine TO.nil (TQ.then_normal (T.ret ?_))
 have hd : decodeOf s = (wishOf nums g2, l, 0) := by rw [dec5 hm hwt hps (by omega) hW, if_neg (by rintro (h' | h') <;> first | omega | simp_all)]
 refine TQ.doneD Tryz.enters68 (c_dec1_calm _ _ _) ((A, cap)) (trivial) ?_ (fun _ _ h => by rw [hd]; exact seps_row 4 rfl hlk.symm rfl h) (res3 Tryz.results26 (Res.cells (cs := #[.int _ _, .int _ _, .int _ _, .int _ _, .int _ _, .int _ _, .int _ _, .int _ _, .string _]) Tryz.agg30 rfl (Has.own 2 rfl) rfl rfl) (Res.cell (v := .slice _ _ _) Tryz.one31 rfl (Has.own 1 rfl) rfl) (Res.cell (v := .int _ _) Tryz.one54 rfl (Has.own 0 rfl) rfl)) _ (.inl rfl)
 rw [hd, ← hlk]; rfl
end Go.Proofs
end
section
set_option linter.unusedVariables false
set_option linter.unusedSimpArgs false
set_option maxRecDepth 100000
set_option maxHeartbeats 800000
namespace Go.Proofs
open Go.TL
attribute [local irreducible] Go.TL.T Go.TL.TO Go.TL.TQ
theorem Tryz.enters50 : Enters Tryz.prog 50 := fun args w => by kernel_rfl
theorem Tryz.enters59 : Enters Tryz.prog 59 := fun args w => by kernel_rfl
theorem Tryz.enters61 : Enters Tryz.prog 61 := fun args w => by kernel_rfl
end Go.Proofs
end
section
set_option linter.unusedVariables false
set_option linter.unusedSimpArgs false
set_option maxRecDepth 100000
set_option maxHeartbeats 800000
namespace Go.Proofs
open Go.TL
attribute [local irreducible] Go.TL.T Go.TL.TO Go.TL.TQ
theorem Tryz.field102_0 : TyField Tryz.prog 102 0 0 := fun a w => by kernel_rfl
theorem Tryz.zero102 : TyZero Tryz.prog 102 (.agg #[.pointer none, .slice none 0 0]) := fun w => by kernel_rfl
theorem Tryz.enters52 : Enters Tryz.prog 52 := fun args w => by kernel_rfl
theorem Tryz.enters54 : Enters Tryz.prog 54 := fun args w => by kernel_rfl
theorem Tryz.enters64 : Enters Tryz.prog 64 := fun args w => by kernel_rfl
theorem Tryz.enters66 : Enters Tryz.prog 66 := fun args w => by kernel_rfl
theorem Tryz.enters87 : Enters Tryz.prog 87 := fun args w => by kernel_rfl
theorem Tryz.enters88 : Enters Tryz.prog 88 := fun args w => by kernel_rfl
end Go.Proofs
end
section
set_option linter.unusedVariables false
set_option linter.unusedSimpArgs false
set_option maxRecDepth 100000
set_option maxHeartbeats 800000
namespace Go.Proofs
open Go.TL
attribute [local irreducible] Go.TL.T Go.TL.TO Go.TL.TQ
theorem Tryz.enters99 : Enters Tryz.prog 99 := fun args w => by kernel_rfl
theorem Tryz.enters105 : Enters Tryz.prog 105 := fun args w => by kernel_rfl
theorem Tryz.enters106 : Enters Tryz.prog 106 := fun args w => by kernel_rfl
theorem Tryz.enters107 : Enters Tryz.prog 107 := fun args w => by kernel_rfl
end Go.Proofs
end
section
set_option linter.unusedVariables false
set_option linter.unusedSimpArgs false
set_option maxRecDepth 100000
set_option maxHeartbeats 800000
namespace Go.Proofs
open Go.TL
attribute [local irreducible] Go.TL.T Go.TL.TO Go.TL.TQ
theorem Tryz.field100_1 : TyField Tryz.prog 100 1 1 := fun a w => by kernel_rfl
theorem Tryz.lies100_100 : liesAt Tryz.prog Tryz.prog.depth 100 (2 / Tryz.prog.cellsOf 100) 0 100 1 = true := by kernel_rfl
theorem Tryz.lies102_100 : liesAt Tryz.prog Tryz.prog.depth 102 (2 / Tryz.prog.cellsOf 102) 0 100 1 = true := by kernel_rfl
theorem Tryz.one62 : TyOne Tryz.prog 62 := ⟨fun w => by kernel_rfl, fun w => by kernel_rfl⟩
theorem Tryz.zero100 : TyZero Tryz.prog 100 (.agg #[.pointer none, .slice none 0 0]) := fun w => by kernel_rfl
theorem Tryz.enters65 : Enters Tryz.prog 65 := fun args w => by kernel_rfl
theorem Tryz.enters93 : Enters Tryz.prog 93 := fun args w => by kernel_rfl
theorem Tryz.enters112 : Enters Tryz.prog 112 := fun args w => by kernel_rfl
theorem Tryz.enters116 : Enters Tryz.prog 116 := fun args w => by kernel_rfl
end Go.Proofs
end
section
set_option linter.unusedVariables false
set_option linter.unusedSimpArgs false
set_option maxRecDepth 100000
set_option maxHeartbeats 800000
namespace Go.Proofs
open Go.TL
attribute [local irreducible] Go.TL.T Go.TL.TO Go.TL.TQ
theorem Tryz.mkz118 : MkZ Tryz.prog 118 62 := ⟨#[3], fun v w => by kernel_rfl⟩
theorem Tryz.one1_5 : (Tryz.prog.info? 5).map (·.size) = some 1 := by kernel_rfl
theorem Tryz.size62 : ∀ w, (sizeOf 62).run Tryz.prog w = .ok 1 w := fun w => by kernel_rfl
end Go.Proofs
end
section
set_option linter.unusedVariables false
set_option linter.unusedSimpArgs false
set_option maxRecDepth 100000
set_option maxHeartbeats 800000
namespace Go.Proofs
open Go.TL
attribute [local irreducible] Go.TL.T Go.TL.TO Go.TL.TQ
theorem Tryz.agg155 : TyAgg Tryz.prog 155 8 := ⟨fun w => by kernel_rfl, fun w => by kernel_rfl⟩
theorem Tryz.under155 : Tryz.prog.underlying 155 = some (.array 8 137) := by kernel_rfl
theorem Tryz.under165 : Tryz.prog.underlying 165 = some (.array 32 5) := by kernel_rfl
theorem Tryz.zero165 : TyZero Tryz.prog 165 (.agg #[.int .u8 0, .int .u8 0, .int .u8 0, .int .u8 0, .int .u8 0, .int .u8 0, .int .u8 0, .int .u8 0, .int .u8 0, .int .u8 0, .int .u8 0, .int .u8 0, .int .u8 0, .int .u8 0, .int .u8 0, .int .u8 0, .int .u8 0, .int .u8 0, .int .u8 0, .int .u8 0, .int .u8 0, .int .u8 0, .int .u8 0, .int .u8 0, .int .u8 0, .int .u8 0, .int .u8 0, .int .u8 0, .int .u8 0, .int .u8 0, .int .u8 0, .int .u8 0]) := fun w => by kernel_rfl
end Go.Proofs
end
section
set_option linter.unusedVariables false
set_option linter.unusedSimpArgs false
set_option maxRecDepth 100000
set_option maxHeartbeats 800000
namespace Go.Proofs
open Go.TL
attribute [local irreducible] Go.TL.T Go.TL.TO Go.TL.TQ
theorem Tryz.agg162 : TyAgg Tryz.prog 162 64 := ⟨fun w => by kernel_rfl, fun w => by kernel_rfl⟩
theorem Tryz.size155 : ∀ w, (sizeOf 155).run Tryz.prog w = .ok 8 w := fun w => by kernel_rfl
theorem Tryz.size162 : ∀ w, (sizeOf 162).run Tryz.prog w = .ok 64 w := fun w => by kernel_rfl
theorem Tryz.under162 : Tryz.prog.underlying 162 = some (.array 64 137) := by kernel_rfl
theorem Tryz.zero155 : TyZero Tryz.prog 155 (.agg #[.int .u32 0, .int .u32 0, .int .u32 0, .int .u32 0, .int .u32 0, .int .u32 0, .int .u32 0, .int .u32 0]) := fun w => by kernel_rfl
theorem Tryz.zero162 : TyZero Tryz.prog 162 (.agg #[.int .u32 0, .int .u32 0, .int .u32 0, .int .u32 0, .int .u32 0, .int .u32 0, .int .u32 0, .int .u32 0, .int .u32 0, .int .u32 0, .int .u32 0, .int .u32 0, .int .u32 0, .int .u32 0, .int .u32 0, .int .u32 0, .int .u32 0, .int .u32 0, .int .u32 0, .int .u32 0, .int .u32 0, .int .u32 0, .int .u32 0, .int .u32 0, .int .u32 0, .int .u32 0, .int .u32 0, .int .u32 0, .int .u32 0, .int .u32 0, .int .u32 0, .int .u32 0, .int .u32 0, .int .u32 0, .int .u32 0, .int .u32 0, .int .u32 0, .int .u32 0, .int .u32 0, .int .u32 0, .int .u32 0, .int .u32 0, .int .u32 0, .int .u32 0, .int .u32 0, .int .u32 0, .int .u32 0, .int .u32 0, .int .u32 0, .int .u32 0, .int .u32 0, .int .u32 0, .int .u32 0, .int .u32 0, .int .u32 0, .int .u32 0, .int .u32 0, .int .u32 0, .int .u32 0, .int .u32 0, .int .u32 0, .int .u32 0, .int .u32 0, .int .u32 0]) := fun w => by kernel_rfl
theorem Tryz.enters114 : Enters Tryz.prog 114 := fun args w => by kernel_rfl
theorem Tryz.enters115 : Enters Tryz.prog 115 := fun args w => by kernel_rfl
end Go.Proofs
end
section
set_option linter.unusedVariables false
set_option linter.unusedSimpArgs false
set_option maxRecDepth 100000
set_option maxHeartbeats 800000
namespace Go.Proofs
open Go.TL
attribute [local irreducible] Go.TL.T Go.TL.TO Go.TL.TQ
end Go.Proofs
end
section
set_option linter.unusedVariables false
set_option linter.unusedSimpArgs false
set_option maxRecDepth 100000
set_option maxHeartbeats 800000
namespace Go.Proofs
open Go.TL
attribute [local irreducible] Go.TL.T Go.TL.TO Go.TL.TQ
theorem Tryz.under124 : Tryz.prog.underlying 124 = some (.int .u64) := by kernel_rfl
theorem Tryz.enters117 : Enters Tryz.prog 117 := fun args w => by kernel_rfl
end Go.Proofs
end
section
set_option linter.unusedVariables false
set_option linter.unusedSimpArgs false
set_option maxRecDepth 100000
set_option maxHeartbeats 800000
namespace Go.Proofs
open Go.TL
attribute [local irreducible] Go.TL.T Go.TL.TO Go.TL.TQ
theorem c_rot32 (x : UInt32) (n : Int) (h0 : 0 < n) (h : n < 32) : Cv Tryz.prog 117 #[.int .u32 x.toNat, .int .i64 (0 - n)] [] (.int .u32 (rotr x n.toNat).toNat) := by
 obtain ⟨m, rfl⟩ : ∃ m : Nat, n = (m : Int) := ⟨n.toNat, by omega⟩
 refine Ctr.intro Tryz.func117 rfl Tryz.ntmps117 (Nat.le_of_ble_eq_true rfl) fun S0 w0 => ?_
 refine T.seq (T.region ?_)
 refine rdx (rd_assign (v := .int _ _) rfl) ?_
 refine TO.nil (TQ.then_normal (T.seq (T.region ?_)))
 refine rdx (rd_move (v := .int _ _) rfl) ?_
 refine rdx (rd_convert Tryz.isome3 Tryz.under124 rfl (wrap_negu (n := m) (by omega) (by omega))) ?_
 refine rdx (rd_and rfl rfl (and31 (by omega) (by omega))) ?_
 refine rdx (rd_assign (v := .int _ _) rfl) ?_
 refine TO.nil (TQ.then_normal (T.seq (T.region ?_)))
 refine rdx (rd_move (v := .int _ _) rfl) ?_
 refine rdx (rd_move (v := .int _ _) rfl) ?_
 refine rdx (rd_shl32 (k := (32 - m)) rfl rfl (rfl) (by omega)) ?_
 refine rdx (rd_move (v := .int _ _) rfl) ?_
 refine rdx (rd_move (v := .int _ _) rfl) ?_
 refine rdx (rd_sub rfl rfl (wu64 (by omega) (by omega))) ?_
 refine rdx (rd_shr32 (k := m) rfl rfl (by omega) (by omega)) ?_
 refine rdx (rd_or32 rfl rfl) ?_
 refine rdx (rd_assign (v := .int _ _) rfl) ?_
 refine TO.nil (TQ.then_normal (T.ret ?_))
 refine TQ.value ?_ (res1 Tryz.results117 (Res.tmp (v := .int _ _) rfl)) _ (.inl rfl)
 rw [Int.toNat_natCast, rotr, UInt32.or_comm]
theorem c_mixed (x : UInt32) (A : Option Addr) (cap n : Nat) (l : List Int) (hn : n = l.length) (hl : ∀ n ∈ l, 0 < n ∧ n < 32) (hlen : l.length ≤ 100) : Cv Tryz.prog 115 #[.int .u32 x.toNat, .slice A n cap] [slc eInt 1 A l] (.int .u32 (mixedOf x l).toNat) := by
 subst hn
 refine Ctr.intro Tryz.func115 rfl Tryz.ntmps115 (Nat.le_of_ble_eq_true rfl) fun S0 w0 => ?_
 refine T.seq (T.region ?_)
 refine rdx (rd_assign (v := .int _ _) rfl) ?_
 refine TO.nil (TQ.then_normal (T.seq (T.region ?_)))
 refine rdx (rd_assign (v := .int _ _) rfl) ?_
 refine TO.nil (TQ.then_normal (T.seq (T.seq (T.region ?_))))
 refine rdx (rd_move (v := .slice _ _ _) rfl) ?_
 refine rdx (rd_lensl Tryz.under110 rfl) ?_
 refine rdx (rd_move (v := .int _ _) rfl) ?_
 refine TO.nil (TQ.then_normal (T.block ?_))
 refine T.loop1 [0, 8, 9] (fun (k : Nat) => [(5, .int .u32 (mixedOf x (l.take k)).toNat), (10, .int .i64 (k : Nat))]) (fun (k : Nat) => []) (fun (k : Nat) => k ≤ l.length) (fun (k : Nat) => l.length - k) (0) (Nat.zero_le _) (And.intro (rfl) (And.intro (rfl) (trivial))) (fun _ _ h => h) fun k g0 hx0 => ?_
 refine T.seq (T.region ?_)
 refine rdx (rd_lss rfl rfl) ?_
 refine TO.nil (TQ.then_normal (T.seq ?_))
 refine T.cond_ft rfl (fun h1 => ?_) (fun h1 => ?_)
 ·try simp only [nrm] at h1
  refine T.exit (TQ.then_exit (TQ.then_exit (TQ.block_out (TQ.then_normal (T.seq (T.region ?_))))))
  refine rdx (rd_move (v := .int _ _) rfl) ?_
  refine rdx (rd_assign (v := .int _ _) rfl) ?_
  refine TO.nil (TQ.then_normal (T.ret ?_))
  refine TQ.value ?_ (res1 Tryz.results115 (Res.tmp (v := .int _ _) rfl)) _ (.inl rfl)
  rw [List.take_of_length_le (by omega)]
 try simp only [nrm] at h1
 refine T.skip (TQ.then_normal (T.seq (T.block (T.seq (T.region ?_)))))
 refine rdx (rd_ix Tryz.under110 Tryz.size3 rfl rfl (Has.arg 0 rfl) rfl (by omega) (by omega)) ?_
 refine rdx (rd_el (v := .int _ _) _ 0 Tryz.one3 rfl (Has.arg 0 rfl) rfl (by omega) (Nat.le_of_ble_eq_true rfl) rfl) ?_
 have hb := hl (l[k]'(by omega)) (List.getElem_mem _)
 refine rdx (rd_assign (v := .int _ _) rfl) ?_
 refine TO.nil (TQ.then_normal (T.region ?_))
 refine rdx (rd_move (v := .int _ _) rfl) ?_
 refine rdx (rd_move (v := .int _ _) rfl) ?_
 refine rdx (rd_move (v := .int _ _) rfl) ?_
 refine rdx (rd_neg rfl (w64 (by omega) (by omega))) ?_
 refine TO.fn Tryz.enters117 (c_rot32 x (l[k]'(by omega)) (by omega) (by omega)) rfl Reads0 ?_
 refine rdx (rd_xor32 (a := mixedOf x (l.take k)) (b := rotr x (l[k]'(by omega)).toNat) rfl rfl) ?_
 refine rdx (rd_assign (v := .int _ _) rfl) ?_
 refine TO.nil (TQ.block_normal (TQ.then_normal (T.region ?_)))
 refine rdx (rd_add rfl rfl (w64 (by omega) (by omega))) ?_
 refine rdx (rd_move (v := .int _ _) rfl) ?_
 refine TO.nil ?_
 refine TQ.againk (k + 1) ?_ ?_ (And.intro (congrArg (fun z : UInt32 => Value.int .u32 (z.toNat : Int)) (mixedOf_step (by omega))) (And.intro (rfl) (trivial))) (And.intro (rfl) (And.intro (rfl) (And.intro (rfl) (trivial)))) (fun _ _ h => h)
 ·first | omega | (dsimp only; omega)
 ·first | omega | (dsimp only; omega)
end Go.Proofs
end
section
set_option linter.unusedVariables false
set_option linter.unusedSimpArgs false
set_option maxRecDepth 100000
set_option maxHeartbeats 800000
namespace Go.Proofs
open Go.TL
attribute [local irreducible] Go.TL.T Go.TL.TO Go.TL.TQ
theorem c_schedule (A : Option Addr) (cap n : Nat) (b : List UInt8) (hn : n = b.length) (hb : b.length = 64) : Cv Tryz.prog 114 #[.slice A n cap] [slc eByte 1 A b] (.agg ((sched b).flatMap eW).toArray) := by
 subst hn
 refine Ctr.intro Tryz.func114 rfl Tryz.ntmps114 (Nat.le_of_ble_eq_true rfl) fun S0 w0 => ?_
 refine T.seq (T.region ?_)
 refine TO.alloc Tryz.zero162 (fun b1 => ?_)
 refine TO.nil (TQ.then_normal (T.seq (T.seq (T.region ?_))))
 refine rdx (rd_move (v := .int _ _) rfl) ?_
 refine TO.nil (TQ.then_normal (T.block ?_))
 refine T.loop1 [0, 2] (fun (k : Nat) => [(7, .int .i64 (k : Nat))]) (fun (k : Nat) => [own b1 ((w16 b k).flatMap eW ++ List.replicate (64 - k) (Value.int .u32 0)).toArray 162]) (fun (k : Nat) => k ≤ 16) (fun (k : Nat) => 16 - k) (0) (Nat.zero_le _) (And.intro (rfl) (trivial)) (fun _ _ h => h) fun k g0 hx0 => ?_
 refine T.seq (T.region ?_)
 refine rdx (rd_lss rfl rfl) ?_
 refine TO.nil (TQ.then_normal (T.seq ?_))
 refine T.cond rfl (fun h2 => ?_) (fun h2 => ?_)
 ·try simp only [nrm] at h2
  refine T.skip (TQ.then_normal (T.seq (T.block (T.seq (T.region ?_)))))
  refine rdx (rd_move (v := .int _ _) rfl) ?_
  refine rdx (rd_assign (v := .int _ _) rfl) ?_
  refine TO.nil (TQ.then_normal ?_)
  refine T.drawq Tryz.mixes 34 [(10, 0), (11, 1), (12, 2), (13, 3), (14, 4), (15, 5), (16, 6), (17, 7), (18, 8), (19, 9), (20, 10), (21, 11), (22, 12), (23, 13), (24, 14), (25, 15), (26, 16), (27, 17), (28, 18), (29, 19), (30, 20), (31, 21), (32, 22), (33, 23), (34, 24), (35, 25), (36, 26), (37, 27), (38, 28), (39, 29), (40, 30), (41, 31), (42, 32), (43, 33)] [0, 0, 0, 4, 14, 30, 62, 126, 0, 0, 512, 1536, 3840, 7936, 16128, 32512, 65534, 0, 0, 262144, 786432, 1966080, 4063232, 8257536, 16646144, 33554430, 0, 0, 134217728, 402653184, 1006632960, 2080374784, 4227858432, 8589934590, 17179869183, 34359738367] (by kernel_rfl) ?_
  refine DQ.rd rfl rfl (fun _ => rd_move (v := .int _ _) rfl) ?_
  refine DQ.rd rfl rfl (fun _ => rd_move (v := .slice _ _ _) rfl) ?_
  refine DQ.rd rfl rfl (fun _ => rd_move (v := .int _ _) rfl) ?_
  refine DQ.rd rfl rfl (fun _ => rd_mul rfl rfl (w64 (by omega) (by omega))) ?_
  refine DQ.rd rfl rfl (fun _ => rd_ix (k := (4 * k)) Tryz.under62 Tryz.size5 rfl rfl (Has.arg 0 rfl) (by omega) (by omega) (by omega)) ?_
  refine DQ.rd rfl rfl (fun _ => rd_el (v := .int _ _) (4 * k) 0 Tryz.one5 rfl (Has.arg 0 rfl) rfl (by omega) (Nat.le_of_ble_eq_true rfl) rfl) ?_
  refine DQ.rd rfl rfl (fun _ => rd_conv8_32 Tryz.isome5 Tryz.under137 rfl) ?_
  refine DQ.rd rfl rfl (fun _ => rd_shl32 (k := 24) rfl rfl (rfl) (by decide)) ?_
  refine DQ.rd rfl rfl (fun _ => rd_move (v := .slice _ _ _) rfl) ?_
  refine DQ.rd rfl rfl (fun _ => rd_move (v := .int _ _) rfl) ?_
  refine DQ.rd rfl rfl (fun _ => rd_mul rfl rfl (w64 (by omega) (by omega))) ?_
  refine DQ.rd rfl rfl (fun _ => rd_add rfl rfl (w64 (by omega) (by omega))) ?_
  refine DQ.rd rfl rfl (fun _ => rd_ix (k := (4 * k + 1)) Tryz.under62 Tryz.size5 rfl rfl (Has.arg 0 rfl) (by omega) (by omega) (by omega)) ?_
  refine DQ.rd rfl rfl (fun _ => rd_el (v := .int _ _) (4 * k + 1) 0 Tryz.one5 rfl (Has.arg 0 rfl) rfl (by omega) (Nat.le_of_ble_eq_true rfl) rfl) ?_
  refine DQ.rd rfl rfl (fun _ => rd_conv8_32 Tryz.isome5 Tryz.under137 rfl) ?_
  refine DQ.rd rfl rfl (fun _ => rd_shl32 (k := 16) rfl rfl (rfl) (by decide)) ?_
  refine DQ.rd rfl rfl (fun _ => rd_or32 rfl rfl) ?_
  refine DQ.rd rfl rfl (fun _ => rd_move (v := .slice _ _ _) rfl) ?_
  refine DQ.rd rfl rfl (fun _ => rd_move (v := .int _ _) rfl) ?_
  refine DQ.rd rfl rfl (fun _ => rd_mul rfl rfl (w64 (by omega) (by omega))) ?_
  refine DQ.rd rfl rfl (fun _ => rd_add rfl rfl (w64 (by omega) (by omega))) ?_
  refine DQ.rd rfl rfl (fun _ => rd_ix (k := (4 * k + 2)) Tryz.under62 Tryz.size5 rfl rfl (Has.arg 0 rfl) (by omega) (by omega) (by omega)) ?_
  refine DQ.rd rfl rfl (fun _ => rd_el (v := .int _ _) (4 * k + 2) 0 Tryz.one5 rfl (Has.arg 0 rfl) rfl (by omega) (Nat.le_of_ble_eq_true rfl) rfl) ?_
  refine DQ.rd rfl rfl (fun _ => rd_conv8_32 Tryz.isome5 Tryz.under137 rfl) ?_
  refine DQ.rd rfl rfl (fun _ => rd_shl32 (k := 8) rfl rfl (rfl) (by decide)) ?_
  refine DQ.rd rfl rfl (fun _ => rd_or32 rfl rfl) ?_
  refine DQ.rd rfl rfl (fun _ => rd_move (v := .slice _ _ _) rfl) ?_
  refine DQ.rd rfl rfl (fun _ => rd_move (v := .int _ _) rfl) ?_
  refine DQ.rd rfl rfl (fun _ => rd_mul rfl rfl (w64 (by omega) (by omega))) ?_
  refine DQ.rd rfl rfl (fun _ => rd_add rfl rfl (w64 (by omega) (by omega))) ?_
  refine DQ.rd rfl rfl (fun _ => rd_ix (k := (4 * k + 3)) Tryz.under62 Tryz.size5 rfl rfl (Has.arg 0 rfl) (by omega) (by omega) (by omega)) ?_
  refine DQ.rd rfl rfl (fun _ => rd_el (v := .int _ _) (4 * k + 3) 0 Tryz.one5 rfl (Has.arg 0 rfl) rfl (by omega) (Nat.le_of_ble_eq_true rfl) rfl) ?_
  refine DQ.rd rfl rfl (fun _ => rd_conv8_32 Tryz.isome5 Tryz.under137 rfl) ?_
  refine DQ.rd rfl rfl (fun _ => rd_or32 rfl rfl) ?_
  refine DQ.done rfl ?_
  refine rdx (rd_ixa (k) Tryz.under162 Tryz.size137 rfl rfl (by omega) (by omega)) ?_
  refine TO.store0 (cells' := ((w16 b (k + 1)).flatMap eW ++ List.replicate (64 - (k + 1)) (Value.int .u32 0)).toArray) (v := .int .u32 _) Tryz.size137 rfl rfl rfl (by rw [Nat.zero_add, Nat.mul_one]; rw [w16_succ, wordAt_get (by omega)]; exact over_snoc (l := w16 b k) (m := 64) (k := k) (by first | exact w16_len _ _ | omega) (by omega)) (by rw [List.size_toArray, List.length_append, eW_len, List.length_replicate]; (try rw [w16_len]); omega) rfl ?_
  refine TO.nil (TQ.block_normal (TQ.then_normal (T.region ?_)))
  refine rdx (rd_add rfl rfl (w64 (by omega) (by omega))) ?_
  refine rdx (rd_move (v := .int _ _) rfl) ?_
  refine TO.nil ?_
  refine TQ.againk (k + 1) ?_ ?_ (And.intro (rfl) (trivial)) (And.intro (rfl) (And.intro (rfl) (trivial))) (fun _ _ h => h)
  ·first | omega | (dsimp only; omega)
  ·first | omega | (dsimp only; omega)
 try simp only [nrm] at h2
 refine T.exit (TQ.then_exit (TQ.then_exit (TQ.block_out (TQ.then_normal (T.seq (T.seq (T.region ?_)))))))
 refine rdx (rd_assign (v := .int _ _) rfl) ?_
 refine TO.nil (TQ.then_normal (T.block ?_))
 obtain rfl : k = 16 := by omega
 refine T.loop2 [2] (fun (k : Nat) (wd : List UInt32) => [(4, .int .i64 (k : Nat))]) (fun (k : Nat) (wd : List UInt32) => [own b1 (wd.flatMap eW ++ List.replicate (64 - k) (Value.int .u32 0)).toArray 162]) (fun (k : Nat) (wd : List UInt32) => wd.length = k ∧ k ≤ 64 ∧ wext (64 - k) wd = sched b ∧ 16 ≤ k) (fun (k : Nat) (wd : List UInt32) => 64 - k) (16) (w16 b 16) (⟨w16_len _ _, by omega, rfl, by omega⟩) (And.intro (rfl) (trivial)) (fun _ _ h => h) fun k wd g1 hx1 => ?_
 obtain ⟨hwl, hk, hw, hk16⟩ := hx1
 refine T.seq (T.seq (T.region ?_))
 refine rdx (rd_move (v := .int _ _) rfl) ?_
 refine rdx (rd_lss rfl rfl) ?_
 refine TO.nil (TQ.then_normal ?_)
 refine T.cond_ft rfl (fun h3 => ?_) (fun h3 => ?_)
 ·try simp only [nrm] at h3
  refine T.exit (TQ.then_exit (TQ.then_exit (TQ.block_out (TQ.then_normal (T.seq (T.region ?_))))))
  have hwd := sched_wext hw (by omega)
  refine TO.own_eq (cells' := ((sched b).flatMap eW).toArray) (by rw [show 64 - k = 0 by omega, ← hwd]; simp) ?_
  refine rdx (rd_load_all (cs := (sched b).flatMap eW) Tryz.agg162 rfl (Has.own 0 rfl) (by rw [eW_len, sched_len])) ?_
  refine TO.store_all (cs := (sched b).flatMap eW) Tryz.size162 rfl rfl (by rw [eW_len, sched_len]) (by rw [eW_len, sched_len]) (flatMap_one (fun _ => rfl) _) ?_
  refine TO.nil (TQ.then_normal (T.ret ?_))
  refine TQ.value ?_ (res1 Tryz.results114 (Res.cells (cs := ((sched b).flatMap eW).toArray) Tryz.agg162 rfl (Has.own 0 rfl) (part_all' (by rw [eW_len, sched_len])) (by rw [List.size_toArray, eW_len, sched_len]))) _ (.inl rfl)
  rfl
 try simp only [nrm] at h3
 refine T.skip (TQ.then_normal (T.seq (T.block (T.seq ?_))))
 refine T.drawq Tryz.mixes 9 [(50, 0), (51, 1), (52, 2), (53, 3), (54, 4), (55, 5), (56, 6), (57, 7), (5, 8)] [0, 1, 3, 7, 0, 16, 48, 112, 15, 511] (by kernel_rfl) ?_
 refine DQ.rd rfl rfl (fun _ => rd_move (v := .int _ _) rfl) ?_
 refine DQ.rd rfl rfl (fun _ => rd_sub rfl rfl (w64 (by omega) (by omega))) ?_
 refine DQ.rd rfl rfl (fun _ => rd_ixa (k - 15) Tryz.under162 Tryz.size137 rfl rfl (by omega) (by omega)) ?_
 refine DQ.rd rfl rfl (fun _ => rd_loadk (k - 15) (v := .int .u32 (wd[k - 15]'(by omega)).toNat) Tryz.one137 rfl (Has.own 0 rfl) rfl (getw (l := wd) (by omega))) ?_
 refine DQ.rd rfl rfl (fun _ => rd_move (v := .int _ _) rfl) ?_
 refine DQ.rd rfl rfl (fun _ => rd_sub rfl rfl (w64 (by omega) (by omega))) ?_
 refine DQ.rd rfl rfl (fun _ => rd_ixa (k - 2) Tryz.under162 Tryz.size137 rfl rfl (by omega) (by omega)) ?_
 refine DQ.rd rfl rfl (fun _ => rd_loadk (k - 2) (v := .int .u32 (wd[k - 2]'(by omega)).toNat) Tryz.one137 rfl (Has.own 0 rfl) rfl (getw (l := wd) (by omega))) ?_
 refine DQ.rd rfl rfl (fun _ => rd_assign (v := .int _ _) rfl) ?_
 refine DQ.done rfl ?_
 refine rdx (rd_assign (v := .int _ _) rfl) ?_
 refine TO.nil (TQ.then_normal ?_)
 refine T.drawg Tryz.mixes 24 [(58, 0), (59, 1), (60, 2), (61, 3), (62, 4), (63, 5), (64, 6), (65, 7), (66, 8), (67, 9), (68, 10), (69, 11), (70, 12), (71, 13), (72, 14), (73, 15), (74, 16), (75, 17), (76, 18), (77, 19), (78, 20), (79, 21), (80, 22), (81, 23)] [0, 0, 2, 6, 14, 0, 0, 96, 0, 256, 992, 2046, 0, 4096, 12288, 28672, 65534, 0, 0, 393440, 0, 1048576, 4063456, 8388606, 16777215, 33554431] [6, 18] (by kernel_rfl) ?_
 refine DG.rd rfl rfl rfl (fun _ _ => rd_move (v := .int _ _) rfl) ?_
 refine DG.rd rfl rfl rfl (fun _ _ => rd_move (v := .int _ _) rfl) ?_
 refine DG.rd rfl rfl rfl (fun _ _ => rd_sub rfl rfl (w64 (by omega) (by omega))) ?_
 refine DG.rd rfl rfl rfl (fun _ _ => rd_ixa (k - 16) Tryz.under162 Tryz.size137 rfl rfl (by omega) (by omega)) ?_
 refine DG.rd rfl rfl rfl (fun _ _ => rd_loadk (k - 16) (v := .int .u32 (wd[k - 16]'(by omega)).toNat) Tryz.one137 rfl (Has.own 0 rfl) rfl (getw (l := wd) (by omega))) ?_
 refine DG.rd rfl rfl rfl (fun _ _ => rd_move (v := .int _ _) rfl) ?_
 refine DG.buildS (cs := [.int _ _, .int _ _]) rfl rfl Tryz.under110 Tryz.size3 Tryz.zero3 (Nat.le_of_ble_eq_true rfl) (fun _ _ => rfl) ?_
 refine DG.fnp rfl rfl Tryz.enters115 (fun ρ => c_mixed (wd[k - 15]'(by omega)) (some ⟨(ρ 6).2, 0, none⟩) 2 2 [7, 18] (by first | rfl | simp | omega) (by decide) (by decide)) (fun _ _ => rfl) (fun ρ M hM => (ReadsC (own_slc (e := eInt) [7, 18] rfl (fun _ => rfl) (Has.fromM 6 (hM 6 rfl)) (by simp)) Reads0)) ?_
 refine DG.rd rfl rfl rfl (fun _ _ => rd_move (v := .int _ _) rfl) ?_
 refine DG.rd rfl rfl rfl (fun _ _ => rd_shr32 (k := 3) rfl rfl (rfl) (by decide)) ?_
 refine DG.rd rfl rfl rfl (fun _ _ => rd_xor32 rfl rfl) ?_
 refine DG.rd rfl rfl rfl (fun _ _ => rd_add32 rfl rfl) ?_
 refine DG.rd rfl rfl rfl (fun _ _ => rd_move (v := .int _ _) rfl) ?_
 refine DG.rd rfl rfl rfl (fun _ _ => rd_sub rfl rfl (w64 (by omega) (by omega))) ?_
 refine DG.rd rfl rfl rfl (fun _ _ => rd_ixa (k - 7) Tryz.under162 Tryz.size137 rfl rfl (by omega) (by omega)) ?_
 refine DG.rd rfl rfl rfl (fun _ _ => rd_loadk (k - 7) (v := .int .u32 (wd[k - 7]'(by omega)).toNat) Tryz.one137 rfl (Has.own 0 rfl) rfl (getw (l := wd) (by omega))) ?_
 refine DG.rd rfl rfl rfl (fun _ _ => rd_add32 rfl rfl) ?_
 refine DG.rd rfl rfl rfl (fun _ _ => rd_move (v := .int _ _) rfl) ?_
 refine DG.buildS (cs := [.int _ _, .int _ _]) rfl rfl Tryz.under110 Tryz.size3 Tryz.zero3 (Nat.le_of_ble_eq_true rfl) (fun _ _ => rfl) ?_
 refine DG.fnp rfl rfl Tryz.enters115 (fun ρ => c_mixed (wd[k - 2]'(by omega)) (some ⟨(ρ 18).2, 0, none⟩) 2 2 [17, 19] (by first | rfl | simp | omega) (by decide) (by decide)) (fun _ _ => rfl) (fun ρ M hM => (ReadsC (own_slc (e := eInt) [17, 19] rfl (fun _ => rfl) (Has.fromM 18 (hM 18 rfl)) (by simp)) Reads0)) ?_
 refine DG.rd rfl rfl rfl (fun _ _ => rd_move (v := .int _ _) rfl) ?_
 refine DG.rd rfl rfl rfl (fun _ _ => rd_shr32 (k := 10) rfl rfl (rfl) (by decide)) ?_
 refine DG.rd rfl rfl rfl (fun _ _ => rd_xor32 rfl rfl) ?_
 refine DG.rd rfl rfl rfl (fun _ _ => rd_add32 rfl rfl) ?_
 refine DG.done rfl (by decide) rfl (fun gh6 => ?_)
 refine rdx (rd_ixa (k) Tryz.under162 Tryz.size137 rfl rfl (by omega) (by omega)) ?_
 refine TO.front2 ?_
 refine TO.store0 (cells' := ((wd ++ [wnext wd]).flatMap eW ++ List.replicate (64 - (k + 1)) (Value.int .u32 0)).toArray) (v := .int .u32 _) Tryz.size137 rfl rfl rfl (by rw [Nat.zero_add, Nat.mul_one]; rw [wnext_get hwl hk16, ← mixed_sx, ← mixed_sy]; exact over_snoc (l := wd) (m := 64) (k := k) (by first | exact w16_len _ _ | omega) (by omega)) (by rw [List.size_toArray, List.length_append, eW_len, List.length_replicate]; (try rw [w16_len]); omega) rfl ?_
 refine TO.nil (TQ.block_normal (TQ.then_normal (T.region ?_)))
 refine rdx (rd_move (v := .int _ _) rfl) ?_
 refine rdx (rd_add rfl rfl (w64 (by omega) (by omega))) ?_
 refine rdx (rd_assign (v := .int _ _) rfl) ?_
 refine TO.nil ?_
 refine TQ.againk (k + 1, wd ++ [wnext wd]) ?_ ?_ (And.intro (rfl) (trivial)) (And.intro (rfl) (trivial)) (fun _ _ h => h.sel (js := [0]) (by decide))
 ·refine ⟨by simp [hwl], by omega, ?_, by omega⟩
  rw [← hw, show 64 - k = (64 - (k + 1)) + 1 by omega]; rfl
 ·first | omega | (dsimp only; omega)
end Go.Proofs
end
section
set_option linter.unusedVariables false
set_option linter.unusedSimpArgs false
set_option maxRecDepth 100000
set_option maxHeartbeats 800000
namespace Go.Proofs
open Go.TL
attribute [local irreducible] Go.TL.T Go.TL.TO Go.TL.TQ
theorem c_words_add (bh : Nat) (h : H8) (A : Option Addr) (cap n : Nat) (b : List UInt8) (hn : n = b.length) (hb : b.length = 64) : Ctr Tryz.prog 110 #[.pointer (some ⟨bh, 0, none⟩), .slice A n cap] [glob 0 roundC 162, slc eByte 1 A b] [own bh (h8C h) 155] (γ := Unit) (fun _ => True) (fun _ => .tuple #[]) (fun _ => [own bh (h8C (shaBlock h b)) 155]) := by
 subst hn
 refine Ctr.intro Tryz.func110 rfl Tryz.ntmps110 (Nat.le_of_ble_eq_true rfl) fun S0 w0 => ?_
 refine T.seq (T.region ?_)
 refine rdx (rd_move (v := .slice _ _ _) rfl) ?_
 refine TO.fn Tryz.enters114 (c_schedule _ _ _ _ (by first | rfl | simp | omega) (by assumption)) rfl (ReadsC (Has.arg 1 rfl) Reads0) ?_
 refine TO.alloc Tryz.zero162 (fun b1 => ?_)
 refine TO.store_all (cs := (sched b).flatMap eW) (cs0 := List.replicate 64 (Value.int .u32 0)) Tryz.size162 rfl rfl (by rw [eW_len, sched_len]) rfl (flatMap_one (fun _ => rfl) _) ?_
 refine TO.nil (TQ.then_normal (T.seq (T.region ?_)))
 refine rdx (rd_move (v := .pointer _) rfl) ?_
 refine rdx (rd_nilCheck rfl) ?_
 refine rdx (rd_load_agg (cs := #[.int _ _, .int _ _, .int _ _, .int _ _, .int _ _, .int _ _, .int _ _, .int _ _]) Tryz.agg155 rfl (Has.own 1 rfl) rfl rfl) ?_
 refine TO.alloc Tryz.zero155 (fun b2 => ?_)
 refine TO.store0 (cells' := #[.int _ _, .int _ _, .int _ _, .int _ _, .int _ _, .int _ _, .int _ _, .int _ _]) Tryz.size155 rfl (v := .agg #[.int _ _, .int _ _, .int _ _, .int _ _, .int _ _, .int _ _, .int _ _, .int _ _]) rfl rfl rfl (Nat.le_of_ble_eq_true rfl) rfl ?_
 refine TO.nil (TQ.then_normal (T.seq (T.seq (T.region ?_))))
 refine rdx (rd_glob (cs := roundC) Tryz.agg162 rfl (Has.arg 0 rfl) roundC_size) ?_
 refine rdx (rd_move (v := .int _ _) rfl) ?_
 refine TO.nil (TQ.then_normal (T.block ?_))
 refine T.loop2 [0, 4, 5, 18] (fun (k : Nat) (v : H8) => [(19, .int .i64 (k : Nat))]) (fun (k : Nat) (v : H8) => [own b2 (h8C v) 155]) (fun (k : Nat) (v : H8) => k ≤ 64 ∧ v = rnds h ((shaK.zip (sched b)).take k)) (fun (k : Nat) (v : H8) => 64 - k) (0) (h) (⟨Nat.zero_le _, rfl⟩) (And.intro (rfl) (trivial)) (fun _ _ h => h) fun k v g0 hx0 => ?_
 obtain ⟨hk, hv⟩ := hx0
 refine T.seq (T.region ?_)
 refine rdx (rd_lss rfl rfl) ?_
 refine TO.nil (TQ.then_normal (T.seq ?_))
 refine T.cond_ft rfl (fun h3 => ?_) (fun h3 => ?_)
 ·try simp only [nrm] at h3
  refine T.exit (TQ.then_exit (TQ.then_exit (TQ.block_out (TQ.then_normal (T.seq (T.region ?_))))))
  refine rdx (rd_move (v := .int _ _) rfl) ?_
  refine TO.nil (TQ.then_normal (T.block ?_))
  refine T.front2 ?_
  refine T.loop1 [0, 5] (fun (k : Nat) => [(82, .int .i64 (k : Nat))]) (fun (k : Nat) => [own bh ((mixL8 h v k).flatMap eW).toArray 155]) (fun (k : Nat) => k ≤ 8) (fun (k : Nat) => 8 - k) (0) (Nat.zero_le _) (And.intro (rfl) (trivial)) (fun _ _ h => h) fun k g1 hx1 => ?_
  refine T.seq (T.region ?_)
  refine rdx (rd_lss rfl rfl) ?_
  refine TO.nil (TQ.then_normal (T.seq ?_))
  refine T.cond_ft rfl (fun h8 => ?_) (fun h8 => ?_)
  ·try simp only [nrm] at h8
   refine T.exit (TQ.then_exit (TQ.then_exit (TQ.block_out ?_)))
   refine TQ.own_eq (cells' := h8C (shaBlock h b)) (by rw [show k = 8 by omega, mixL8_8, hv, List.take_of_length_le (by rw [zip_len (sched_len b)]; omega)]; rfl) ?_
   refine TQ.done (()) (trivial) ?_ (fun _ _ h => h.sel (js := [0]) (by decide)) (res0 Tryz.results110) _ (.inr rfl)
   rfl
  try simp only [nrm] at h8
  refine T.skip (TQ.then_normal (T.seq (T.block (T.seq (T.region ?_)))))
  refine rdx (rd_move (v := .int _ _) rfl) ?_
  refine rdx (rd_assign (v := .int _ _) rfl) ?_
  refine TO.nil (TQ.then_normal ?_)
  refine T.drawq Tryz.mixes 10 [(85, 0), (86, 1), (87, 2), (88, 3), (89, 4), (90, 5), (91, 6), (92, 7), (93, 8), (94, 9)] [0, 0, 1, 7, 15, 0, 32, 96, 255, 1, 1023, 2047] (by kernel_rfl) ?_
  refine DQ.rd rfl rfl (fun _ => rd_move (v := .pointer _) rfl) ?_
  refine DQ.rd rfl rfl (fun _ => rd_move (v := .int _ _) rfl) ?_
  refine DQ.rd rfl rfl (fun _ => rd_nilCheck rfl) ?_
  refine DQ.rd rfl rfl (fun _ => rd_ixa (k) Tryz.under155 Tryz.size137 rfl rfl (by omega) (by omega)) ?_
  refine DQ.rd rfl rfl (fun _ => rd_loadk (k) (v := .int .u32 (h.l[k]'(by rw [H8.len]; omega)).toNat) Tryz.one137 rfl (Has.own 0 rfl) rfl (mixL8_at (by omega))) ?_
  refine DQ.rd rfl rfl (fun _ => rd_move (v := .int _ _) rfl) ?_
  refine DQ.rd rfl rfl (fun _ => rd_ixa (k) Tryz.under155 Tryz.size137 rfl rfl (by omega) (by omega)) ?_
  refine DQ.rd rfl rfl (fun _ => rd_loadk (k) (v := .int .u32 (v.l[k]'(by rw [H8.len]; omega)).toNat) Tryz.one137 rfl (Has.own 1 rfl) rfl (getw' (l := v.l) (by rw [H8.len]; omega))) ?_
  refine DQ.rd rfl rfl (fun _ => rd_add32 rfl rfl) ?_
  refine DQ.rd rfl rfl (fun _ => rd_nilCheck rfl) ?_
  refine DQ.done rfl ?_
  refine rdx (rd_ixa (k) Tryz.under155 Tryz.size137 rfl rfl (by omega) (by omega)) ?_
  refine TO.store0 (cells' := ((mixL8 h v (k + 1)).flatMap eW).toArray) (v := .int .u32 _) Tryz.size137 rfl rfl rfl (by rw [Nat.zero_add, Nat.mul_one]; exact mixL8_over (by omega)) (by rw [List.size_toArray, eW_len, mixL8_len h v (by omega)]; omega) rfl ?_
  refine TO.nil (TQ.block_normal (TQ.then_normal (T.region ?_)))
  refine rdx (rd_add rfl rfl (w64 (by omega) (by omega))) ?_
  refine rdx (rd_move (v := .int _ _) rfl) ?_
  refine TO.nil ?_
  refine TQ.againk (k + 1) ?_ ?_ (And.intro (rfl) (trivial)) (And.intro (rfl) (And.intro (rfl) (trivial))) (fun _ _ h => h)
  ·first | omega | (dsimp only; omega)
  ·first | omega | (dsimp only; omega)
 try simp only [nrm] at h3
 refine T.skip (TQ.then_normal (T.seq (T.block (T.seq (T.region ?_)))))
 refine rdx (rd_move (v := .int _ _) rfl) ?_
 refine rdx (rd_index_arr (k) (v := .int .u32 (shaK[k]'(by rw [shaK_len]; omega)).toNat) Tryz.under162 Tryz.one137 Tryz.size137 rfl rfl rfl (by omega) (roundC_at (by omega))) ?_
 refine rdx (rd_assign (v := .int _ _) rfl) ?_
 refine rdx (rd_assign (v := .int _ _) rfl) ?_
 refine TO.nil (TQ.then_normal (T.seq ?_))
 refine T.drawq Tryz.mixes 5 [(23, 0), (24, 1), (25, 2), (26, 3), (8, 4)] [0, 1, 0, 4, 3, 31] (by kernel_rfl) ?_
 refine DQ.rd rfl rfl (fun _ => rd_ixa 0 Tryz.under155 Tryz.size137 rfl rfl rfl (by decide)) ?_
 refine DQ.rd rfl rfl (fun _ => rd_load (v := .int _ _) Tryz.one137 rfl (Has.own 0 rfl) rfl) ?_
 refine DQ.rd rfl rfl (fun _ => rd_ixa 4 Tryz.under155 Tryz.size137 rfl rfl rfl (by decide)) ?_
 refine DQ.rd rfl rfl (fun _ => rd_load (v := .int _ _) Tryz.one137 rfl (Has.own 0 rfl) rfl) ?_
 refine DQ.rd rfl rfl (fun _ => rd_assign (v := .int _ _) rfl) ?_
 refine DQ.done rfl ?_
 refine rdx (rd_assign (v := .int _ _) rfl) ?_
 refine TO.nil (TQ.then_normal (T.seq ?_))
 refine T.drawg Tryz.mixes 22 [(27, 0), (28, 1), (29, 2), (30, 3), (31, 4), (32, 5), (33, 6), (34, 7), (35, 8), (36, 9), (37, 10), (38, 11), (39, 12), (40, 13), (41, 14), (42, 15), (43, 16), (44, 17), (45, 18), (46, 19), (47, 20), (48, 21)] [0, 1, 0, 0, 12, 31, 0, 0, 128, 448, 0, 1024, 0, 4096, 15360, 32704, 65535, 0, 262143, 0, 524288, 1572864, 4194303, 8388607] [3] (by kernel_rfl) ?_
 refine DG.rd rfl rfl rfl (fun _ _ => rd_ixa 7 Tryz.under155 Tryz.size137 rfl rfl rfl (by decide)) ?_
 refine DG.rd rfl rfl rfl (fun _ _ => rd_load (v := .int _ _) Tryz.one137 rfl (Has.own 0 rfl) rfl) ?_
 refine DG.rd rfl rfl rfl (fun _ _ => rd_move (v := .int _ _) rfl) ?_
 refine DG.buildS (cs := [.int _ _, .int _ _, .int _ _]) rfl rfl Tryz.under110 Tryz.size3 Tryz.zero3 (Nat.le_of_ble_eq_true rfl) (fun _ _ => rfl) ?_
 refine DG.fnp rfl rfl Tryz.enters115 (fun ρ => c_mixed (v.e) (some ⟨(ρ 3).2, 0, none⟩) 3 3 [6, 11, 25] (by first | rfl | simp | omega) (by decide) (by decide)) (fun _ _ => rfl) (fun ρ M hM => (ReadsC (own_slc (e := eInt) [6, 11, 25] rfl (fun _ => rfl) (Has.fromM 3 (hM 3 rfl)) (by simp)) Reads0)) ?_
 refine DG.rd rfl rfl rfl (fun _ _ => rd_add32 rfl rfl) ?_
 refine DG.rd rfl rfl rfl (fun _ _ => rd_move (v := .int _ _) rfl) ?_
 refine DG.rd rfl rfl rfl (fun _ _ => rd_ixa 5 Tryz.under155 Tryz.size137 rfl rfl rfl (by decide)) ?_
 refine DG.rd rfl rfl rfl (fun _ _ => rd_load (v := .int _ _) Tryz.one137 rfl (Has.own 0 rfl) rfl) ?_
 refine DG.rd rfl rfl rfl (fun _ _ => rd_and32 rfl rfl) ?_
 refine DG.rd rfl rfl rfl (fun _ _ => rd_move (v := .int _ _) rfl) ?_
 refine DG.rd rfl rfl rfl (fun _ _ => rd_not32 rfl) ?_
 refine DG.rd rfl rfl rfl (fun _ _ => rd_ixa 6 Tryz.under155 Tryz.size137 rfl rfl rfl (by decide)) ?_
 refine DG.rd rfl rfl rfl (fun _ _ => rd_load (v := .int _ _) Tryz.one137 rfl (Has.own 0 rfl) rfl) ?_
 refine DG.rd rfl rfl rfl (fun _ _ => rd_and32 rfl rfl) ?_
 refine DG.rd rfl rfl rfl (fun _ _ => rd_xor32 rfl rfl) ?_
 refine DG.rd rfl rfl rfl (fun _ _ => rd_add32 rfl rfl) ?_
 refine DG.rd rfl rfl rfl (fun _ _ => rd_move (v := .int _ _) rfl) ?_
 refine DG.rd rfl rfl rfl (fun _ _ => rd_add32 rfl rfl) ?_
 refine DG.rd rfl rfl rfl (fun _ _ => rd_move (v := .int _ _) rfl) ?_
 refine DG.rd rfl rfl rfl (fun _ _ => rd_ixa (k) Tryz.under162 Tryz.size137 rfl rfl (by omega) (by omega)) ?_
 refine DG.rd rfl rfl rfl (fun _ _ => rd_loadk (k) (v := .int .u32 ((sched b)[k]'(by rw [sched_len]; omega)).toNat) Tryz.one137 rfl (Has.own 1 rfl) rfl (getw' (l := sched b) (by rw [sched_len]; omega))) ?_
 refine DG.done rfl (by decide) rfl (fun gh5 => ?_)
 refine rdx (rd_add32 rfl rfl) ?_
 refine rdx (rd_assign (v := .int _ _) rfl) ?_
 refine TO.nil (TQ.then_normal (T.seq ?_))
 refine T.drawg Tryz.mixes 18 [(50, 0), (51, 1), (52, 2), (53, 3), (54, 4), (55, 5), (56, 6), (57, 7), (58, 8), (59, 9), (60, 10), (61, 11), (62, 12), (63, 13), (64, 14), (65, 15), (66, 16), (67, 17)] [0, 0, 3, 0, 0, 16, 56, 0, 0, 256, 896, 2040, 0, 4096, 0, 16384, 61440, 131064, 262143, 524287] [1] (by kernel_rfl) ?_
 refine DG.rd rfl rfl rfl (fun _ _ => rd_move (v := .int _ _) rfl) ?_
 refine DG.buildS (cs := [.int _ _, .int _ _, .int _ _]) rfl rfl Tryz.under110 Tryz.size3 Tryz.zero3 (Nat.le_of_ble_eq_true rfl) (fun _ _ => rfl) ?_
 refine DG.fnp rfl rfl Tryz.enters115 (fun ρ => c_mixed (v.a) (some ⟨(ρ 1).2, 0, none⟩) 3 3 [2, 13, 22] (by first | rfl | simp | omega) (by decide) (by decide)) (fun _ _ => rfl) (fun ρ M hM => (ReadsC (own_slc (e := eInt) [2, 13, 22] rfl (fun _ => rfl) (Has.fromM 1 (hM 1 rfl)) (by simp)) Reads0)) ?_
 refine DG.rd rfl rfl rfl (fun _ _ => rd_move (v := .int _ _) rfl) ?_
 refine DG.rd rfl rfl rfl (fun _ _ => rd_ixa 1 Tryz.under155 Tryz.size137 rfl rfl rfl (by decide)) ?_
 refine DG.rd rfl rfl rfl (fun _ _ => rd_load (v := .int _ _) Tryz.one137 rfl (Has.own 1 rfl) rfl) ?_
 refine DG.rd rfl rfl rfl (fun _ _ => rd_and32 rfl rfl) ?_
 refine DG.rd rfl rfl rfl (fun _ _ => rd_move (v := .int _ _) rfl) ?_
 refine DG.rd rfl rfl rfl (fun _ _ => rd_ixa 2 Tryz.under155 Tryz.size137 rfl rfl rfl (by decide)) ?_
 refine DG.rd rfl rfl rfl (fun _ _ => rd_load (v := .int _ _) Tryz.one137 rfl (Has.own 1 rfl) rfl) ?_
 refine DG.rd rfl rfl rfl (fun _ _ => rd_and32 rfl rfl) ?_
 refine DG.rd rfl rfl rfl (fun _ _ => rd_xor32 rfl rfl) ?_
 refine DG.rd rfl rfl rfl (fun _ _ => rd_ixa 1 Tryz.under155 Tryz.size137 rfl rfl rfl (by decide)) ?_
 refine DG.rd rfl rfl rfl (fun _ _ => rd_load (v := .int _ _) Tryz.one137 rfl (Has.own 1 rfl) rfl) ?_
 refine DG.rd rfl rfl rfl (fun _ _ => rd_ixa 2 Tryz.under155 Tryz.size137 rfl rfl rfl (by decide)) ?_
 refine DG.rd rfl rfl rfl (fun _ _ => rd_load (v := .int _ _) Tryz.one137 rfl (Has.own 1 rfl) rfl) ?_
 refine DG.rd rfl rfl rfl (fun _ _ => rd_and32 rfl rfl) ?_
 refine DG.rd rfl rfl rfl (fun _ _ => rd_xor32 rfl rfl) ?_
 refine DG.done rfl (by decide) rfl (fun gh7 => ?_)
 refine rdx (rd_add32 rfl rfl) ?_
 refine rdx (rd_assign (v := .int _ _) rfl) ?_
 refine TO.nil (TQ.then_normal (T.seq ?_))
 refine T.drawq Tryz.mixes 2 [(69, 0), (70, 1)] [0, 0, 3] (by kernel_rfl) ?_
 refine DQ.rd rfl rfl (fun _ => rd_slice_arr (i := 1) (j := 8) (t := 155) (a := 155) Tryz.under155 Tryz.size137 rfl (.inr ⟨_, rfl⟩) (.inl ⟨rfl, rfl⟩) (by decide) (by decide) (by decide)) ?_
 refine DQ.rd rfl rfl (fun _ => rd_slice_arr (i := 0) (j := 7) (t := 155) (a := 155) Tryz.under155 Tryz.size137 rfl (.inl ⟨rfl, rfl⟩) (.inr ⟨_, rfl⟩) (by decide) (by decide) (by decide)) ?_
 refine DQ.done rfl ?_
 refine TO.front2 ?_
 refine TO.copy0 (cs := [.int _ _, .int _ _, .int _ _, .int _ _, .int _ _, .int _ _, .int _ _, .int _ _]) (cells' := #[.int _ _, .int _ _, .int _ _, .int _ _, .int _ _, .int _ _, .int _ _, .int _ _]) Tryz.under138 Tryz.size137 rfl rfl (Nat.le_of_ble_eq_true rfl) (Nat.le_of_ble_eq_true rfl) rfl rfl ?_
 refine TO.nil (TQ.then_normal (T.region ?_))
 refine rdx (rd_move (v := .int _ _) rfl) ?_
 refine rdx (rd_move (v := .int _ _) rfl) ?_
 refine rdx (rd_add32 rfl rfl) ?_
 refine rdx (rd_ixa 4 Tryz.under155 Tryz.size137 rfl rfl rfl (by decide)) ?_
 refine rdx (rd_load (v := .int _ _) Tryz.one137 rfl (Has.own 0 rfl) rfl) ?_
 refine rdx (rd_move (v := .int _ _) rfl) ?_
 refine rdx (rd_add32 rfl rfl) ?_
 refine rdx (rd_ixa 0 Tryz.under155 Tryz.size137 rfl rfl rfl (by decide)) ?_
 refine TO.store0 (cells' := #[.int _ _, .int _ _, .int _ _, .int _ _, .int _ _, .int _ _, .int _ _, .int _ _]) Tryz.size137 rfl (v := .int _ _) rfl rfl rfl (Nat.le_of_ble_eq_true rfl) rfl ?_
 refine rdx (rd_ixa 4 Tryz.under155 Tryz.size137 rfl rfl rfl (by decide)) ?_
 refine TO.store0 (cells' := #[.int _ _, .int _ _, .int _ _, .int _ _, .int _ _, .int _ _, .int _ _, .int _ _]) Tryz.size137 rfl (v := .int _ _) rfl rfl rfl (Nat.le_of_ble_eq_true rfl) rfl ?_
 refine TO.own_eq (cells' := h8C (rnd v (shaK[k]'(by rw [shaK_len]; omega), (sched b)[k]'(by rw [sched_len]; omega)))) (by rw [rnd_mixed]; rfl) ?_
 refine TO.nil (TQ.block_normal (TQ.then_normal (T.region ?_)))
 refine rdx (rd_add rfl rfl (w64 (by omega) (by omega))) ?_
 refine rdx (rd_move (v := .int _ _) rfl) ?_
 refine TO.nil ?_
 refine TQ.againk (k + 1, rnd v (shaK[k]'(by rw [shaK_len]; omega), (sched b)[k]'(by rw [sched_len]; omega))) ?_ ?_ (And.intro (rfl) (trivial)) (And.intro (rfl) (And.intro (rfl) (And.intro (rfl) (And.intro (rfl) (trivial))))) (fun _ _ h => h.sel (js := [0, 3, 4]) (by decide))
 ·exact ⟨by omega, by rw [hv]; exact (rnds_succ (sched_len b) (by omega)).symm⟩
 ·first | omega | (dsimp only; omega)
end Go.Proofs
end
section
set_option linter.unusedVariables false
set_option linter.unusedSimpArgs false
set_option maxRecDepth 100000
set_option maxHeartbeats 800000
namespace Go.Proofs
open Go.TL
attribute [local irreducible] Go.TL.T Go.TL.TO Go.TL.TQ
theorem c_words_digest (h : H8) : Cv Tryz.prog 111 #[.agg (h8C h)] [] (.string (str (h.l.flatMap be4))) := by
 have hfl : (h.l.flatMap be4).length = 32 := by simp [H8.l, be4]
 refine Ctr.intro Tryz.func111 rfl Tryz.ntmps111 (Nat.le_of_ble_eq_true rfl) fun S0 w0 => ?_
 refine T.seq (T.region ?_)
 refine TO.box (v := .agg #[.int _ _, .int _ _, .int _ _, .int _ _, .int _ _, .int _ _, .int _ _, .int _ _]) rfl (fun b1 => ?_)
 refine rdx (rd_assign (v := .string _) rfl) ?_
 refine TO.nil (TQ.then_normal (T.seq (T.region ?_)))
 refine TO.alloc Tryz.zero165 (fun b2 => ?_)
 refine TO.nil (TQ.then_normal (T.seq (T.seq (T.region ?_))))
 refine rdx (rd_load_agg (cs := #[.int _ _, .int _ _, .int _ _, .int _ _, .int _ _, .int _ _, .int _ _, .int _ _]) Tryz.agg155 rfl (Has.own 1 rfl) rfl rfl) ?_
 refine rdx (rd_move (v := .int _ _) rfl) ?_
 refine TO.nil (TQ.then_normal (T.block ?_))
 refine T.loop1 [3, 7] (fun (i : Nat) => [(8, .int .i64 (i : Nat))]) (fun (i : Nat) => [own b2 (bytesC ((h.l.flatMap be4).take (4 * i)) ++ List.replicate (32 - (4 * i)) (Value.int .u8 0)).toArray 165]) (fun (i : Nat) => i ≤ 8) (fun (i : Nat) => 8 - i) (0) (Nat.zero_le _) (And.intro (rfl) (trivial)) (fun _ _ h => h) fun i g0 hx0 => ?_
 refine T.seq (T.region ?_)
 refine rdx (rd_lss rfl rfl) ?_
 refine TO.nil (TQ.then_normal (T.seq ?_))
 refine T.cond_ft rfl (fun h3 => ?_) (fun h3 => ?_)
 ·try simp only [nrm] at h3
  refine T.exit (TQ.then_exit (TQ.then_exit (TQ.block_out (TQ.then_normal (T.seq (T.region ?_))))))
  refine rdx (rd_slice_arr (i := 0) (j := 32) (t := 165) (a := 165) Tryz.under165 Tryz.size5 rfl (.inl ⟨rfl, rfl⟩) (.inl ⟨rfl, rfl⟩) (by decide) (by decide) (by decide)) ?_
  refine TO.own_eq (cells' := (bytesC (h.l.flatMap be4)).toArray) (by rw [show 4 * i = 32 by omega, List.take_of_length_le (by rw [hfl]; omega)]; simp) ?_
  refine TO.torow0 1 32 (by rw [bytesC_length, hfl]) (by decide) ?_
  refine rdx (rd_row_str Tryz.under62 Tryz.under5 Tryz.under9 rfl (Has.own 0 rfl)) ?_
  refine rdx (rd_assign (v := .string _) rfl) ?_
  refine TO.nil (TQ.then_normal (T.ret ?_))
  refine TQ.value ?_ (res1 Tryz.results111 (Res.tmp (v := .string _) rfl)) _ (.inl rfl)
  rfl
 try simp only [nrm] at h3
 refine T.skip (TQ.then_normal (T.seq (T.block (T.seq (T.region ?_)))))
 refine rdx (rd_move (v := .int _ _) rfl) ?_
 refine rdx (rd_index_arr (i) (v := .int .u32 (h.l[i]'(by rw [H8.len]; omega)).toNat) Tryz.under155 Tryz.one137 Tryz.size137 rfl rfl rfl (by omega) (h8C_at h (by omega))) ?_
 refine rdx (rd_assign (v := .int _ _) rfl) ?_
 refine rdx (rd_assign (v := .int _ _) rfl) ?_
 refine TO.nil (TQ.then_normal (T.seq (T.region ?_)))
 refine rdx (rd_move (v := .int _ _) rfl) ?_
 refine TO.nil (TQ.then_normal (T.block ?_))
 refine T.loop1 [3, 4, 5, 7, 8] (fun (j : Nat) => [(12, .int .i64 (j : Nat))]) (fun (j : Nat) => [own b2 (bytesC ((h.l.flatMap be4).take (4 * i + j)) ++ List.replicate (32 - (4 * i + j)) (Value.int .u8 0)).toArray 165]) (fun (j : Nat) => j ≤ 4) (fun (j : Nat) => 4 - j) (0) (Nat.zero_le _) (And.intro (rfl) (trivial)) (fun _ _ h => h) fun j g1 hx1 => ?_
 refine T.seq (T.region ?_)
 refine rdx (rd_lss rfl rfl) ?_
 refine TO.nil (TQ.then_normal (T.seq ?_))
 refine T.cond_ft rfl (fun h4 => ?_) (fun h4 => ?_)
 ·try simp only [nrm] at h4
  refine T.exit (TQ.then_exit (TQ.then_exit (TQ.block_out (TQ.block_normal (TQ.then_normal (T.region ?_))))))
  refine rdx (rd_add rfl rfl (w64 (by omega) (by omega))) ?_
  refine TO.own_eq (cells' := (bytesC ((h.l.flatMap be4).take (4 * (i + 1))) ++ List.replicate (32 - (4 * (i + 1))) (Value.int .u8 0)).toArray) (by rw [show 4 * (i + 1) = 4 * i + j by omega]) ?_
  refine rdx (rd_move (v := .int _ _) rfl) ?_
  refine TO.nil ?_
  refine TQ.againk (i + 1) ?_ ?_ (And.intro (rfl) (trivial)) (And.intro (rfl) (And.intro (rfl) (trivial))) (fun _ _ h => h)
  ·first | omega | (dsimp only; omega)
  ·first | omega | (dsimp only; omega)
 try simp only [nrm] at h4
 refine T.skip (TQ.then_normal (T.seq (T.block (T.seq (T.region ?_)))))
 refine rdx (rd_move (v := .int _ _) rfl) ?_
 refine rdx (rd_assign (v := .int _ _) rfl) ?_
 refine TO.nil (TQ.then_normal (T.region ?_))
 refine rdx (rd_move (v := .int _ _) rfl) ?_
 refine rdx (rd_mul rfl rfl (w64 (by omega) (by omega))) ?_
 refine rdx (rd_move (v := .int _ _) rfl) ?_
 refine rdx (rd_add rfl rfl (w64 (by omega) (by omega))) ?_
 refine rdx (rd_move (v := .int _ _) rfl) ?_
 refine rdx (rd_move (v := .int _ _) rfl) ?_
 refine rdx (rd_mul rfl rfl (w64 (by omega) (by omega))) ?_
 refine rdx (rd_sub rfl rfl (w64 (by omega) (by omega))) ?_
 refine rdx (rd_shr32 (k := (24 - 8 * j)) rfl rfl (by omega) (by omega)) ?_
 refine rdx (rd_conv32_8 Tryz.isome137 Tryz.under5 rfl) ?_
 refine rdx (rd_ixa (4 * i + j) Tryz.under165 Tryz.size5 rfl rfl (by omega) (by omega)) ?_
 refine TO.store0 (cells' := (bytesC ((h.l.flatMap be4).take (4 * i + j + 1)) ++ List.replicate (32 - (4 * i + j + 1)) (Value.int .u8 0)).toArray) (v := .int .u8 _) Tryz.size5 rfl rfl rfl (by rw [Nat.zero_add, Nat.mul_one]; exact over_byte (dig_at (by omega) (by omega)) (by omega)) (by rw [List.size_toArray, List.length_append, bytesC_length, List.length_take, List.length_replicate, hfl]; omega) rfl ?_
 refine TO.nil (TQ.block_normal (TQ.then_normal (T.region ?_)))
 refine rdx (rd_add rfl rfl (w64 (by omega) (by omega))) ?_
 refine rdx (rd_move (v := .int _ _) rfl) ?_
 refine TO.nil ?_
 refine TQ.againk (j + 1) ?_ ?_ (And.intro (rfl) (trivial)) (And.intro (rfl) (And.intro (rfl) (And.intro (rfl) (And.intro (rfl) (And.intro (rfl) (trivial)))))) (fun _ _ h => h)
 ·first | omega | (dsimp only; omega)
 ·first | omega | (dsimp only; omega)
theorem c_chunk1 (b1 b2 g len cap : Nat) (h64 : len % 64 = 0) (hc : len ≤ cap) (hl : cap ≤ 9223372036854775807) : ICtr Tryz.prog 113 [.pointer (some ⟨b1, 0, none⟩), .pointer (some ⟨b2, 0, none⟩)] [own b1 #[.slice (some ⟨g, 0, none⟩) len cap] 62, own b2 #[.int .i64 64] 3] [] (len / 64) (fun k => [.slice (some ⟨g, 64 * k, none⟩) 64 64]) := by
 intro l G J Js hY
 refine Ctr.intro Tryz.func113 rfl Tryz.ntmps113 (Nat.le_of_ble_eq_true rfl) fun S0 w0 => ?_
 refine T.seq (T.region ?_)
 refine rdx (rd_assign (v := .int _ _) rfl) ?_
 refine TO.nil (TQ.then_normal (T.block ?_))
 refine T.loop1 [0, 1, 2] (fun (k : Nat) => [(4, .int .i64 ((64 * k : Nat) : Int))]) (fun (k : Nat) => [J k]) (fun (k : Nat) => k ≤ len / 64) (fun (k : Nat) => len / 64 - k) (0) (Nat.zero_le _) (And.intro (rfl) (trivial)) (fun _ _ h => h) fun k g0 hx0 => ?_
 refine T.seq (T.seq (T.region ?_))
 refine rdx (rd_move (v := .int _ _) rfl) ?_
 refine rdx (rd_load (v := .slice _ _ _) Tryz.one62 rfl (Has.arg 0 rfl) rfl) ?_
 refine rdx (rd_lensl Tryz.under62 rfl) ?_
 refine rdx (rd_lss rfl rfl) ?_
 refine TO.nil (TQ.then_normal ?_)
 refine T.cond_ft rfl (fun h1 => ?_) (fun h1 => ?_)
 ·try simp only [nrm] at h1
  refine T.exit (TQ.then_exit (TQ.then_exit (TQ.block_out ?_)))
  refine TQ.done (true) (trivial) ?_ (fun _ _ h => by rw [show len / 64 = k by omega]; exact h.sel (js := [0]) (by decide)) (res0 Tryz.results113) _ (.inr rfl)
  rfl
 try simp only [nrm] at h1
 refine T.skip (TQ.then_normal (T.seq (T.block (T.seq ?_))))
 refine T.drawq Tryz.mixes 5 [(13, 0), (14, 1), (15, 2), (16, 3), (17, 4)] [0, 0, 0, 6, 14, 31, 63] (by kernel_rfl) ?_
 refine DQ.rd rfl rfl (fun _ => rd_load (v := .int _ _) Tryz.one3 rfl (Has.arg 1 rfl) rfl) ?_
 refine DQ.rd rfl rfl (fun _ => rd_load (v := .slice _ _ _) Tryz.one62 rfl (Has.arg 0 rfl) rfl) ?_
 refine DQ.rd rfl rfl (fun _ => rd_move (v := .int _ _) rfl) ?_
 refine DQ.rd rfl rfl (fun _ => rd_sub_slice (i := 64 * k) (j := len) Tryz.under62 Tryz.size5 rfl (.inr ⟨_, rfl⟩) (.inl ⟨rfl, rfl⟩) (by omega) (by omega) (by omega)) ?_
 refine DQ.rd rfl rfl (fun _ => rd_lensl Tryz.under62 rfl) ?_
 refine DQ.done rfl ?_
 refine rdx (rd_min2 (s := 64) rfl rfl (by rw [if_neg (by omega)])) ?_
 refine rdx (rd_assign (v := .int _ _) rfl) ?_
 refine TO.nil (TQ.then_normal (T.seq (T.region ?_)))
 refine rdx (rd_move (v := .func _ _ _) rfl) ?_
 refine rdx (rd_load (v := .slice _ _ _) Tryz.one62 rfl (Has.arg 0 rfl) rfl) ?_
 refine rdx (rd_move (v := .int _ _) rfl) ?_
 refine rdx (rd_move (v := .int _ _) rfl) ?_
 refine rdx (rd_move (v := .int _ _) rfl) ?_
 refine rdx (rd_add rfl rfl (w64 (by omega) (by omega))) ?_
 refine rdx (rd_move (v := .int _ _) rfl) ?_
 refine rdx (rd_move (v := .int _ _) rfl) ?_
 refine rdx (rd_add rfl rfl (w64 (by omega) (by omega))) ?_
 refine rdx (rd_slice3' (i := 64 * k) (j := 64 * k + 64) (q := 64 * k + 64) (l := 64) (o' := 64 * k) Tryz.under62 Tryz.size5 rfl rfl rfl rfl (by omega) (by omega) (by omega) (by omega) (by omega) (by omega) (by omega) (by omega) (by omega) (by omega)) ?_
 refine TO.yield2 rfl (hY k (by omega)) rfl (fun X hX => Has.mem (List.mem_append_right _ hX)) ?_ ?_
 ·refine rdx (rd_not rfl) ?_
  refine TO.nil (TQ.then_normal ?_)
  refine T.cond_true rfl ?_
  refine T.ret (TQ.block_ret (TQ.then_ret (TQ.then_ret (TQ.block_ret ?_))))
  refine TQ.done (false) (trivial) ?_ (fun _ _ h => h.sel (js := [0]) (by decide)) (res0 Tryz.results113) _ (.inl rfl)
  rfl
 refine rdx (rd_not rfl) ?_
 refine TO.nil (TQ.then_normal ?_)
 refine T.cond_false rfl ?_
 refine T.skip (TQ.block_normal (TQ.then_normal (T.region ?_)))
 refine rdx (rd_move (v := .int _ _) rfl) ?_
 refine rdx (rd_load (v := .int _ _) Tryz.one3 rfl (Has.arg 1 rfl) rfl) ?_
 refine rdx (rd_add rfl rfl (w64 (by omega) (by omega))) ?_
 refine rdx (rd_assign (v := .int _ _) rfl) ?_
 refine TO.nil ?_
 refine TQ.againk (k + 1) ?_ ?_ (And.intro (rfl) (trivial)) (And.intro (rfl) (And.intro (rfl) (And.intro (rfl) (trivial)))) (fun _ _ h => h)
 ·first | omega | (dsimp only; omega)
 ·first | omega | (dsimp only; omega)
theorem c_chunk (A : Option Addr) (len cap : Nat) : Ctr Tryz.prog 109 #[.slice A len cap, .int .i64 64] [] [] (γ := Nat × Nat) (fun x => True) (fun x => .func (.func 113) #[] #[.pointer (some ⟨x.1, 0, none⟩), .pointer (some ⟨x.2, 0, none⟩)]) (fun x => [own x.1 #[.slice A len cap] 62, own x.2 #[.int .i64 64] 3]) := by
 refine Ctr.intro Tryz.func109 rfl Tryz.ntmps109 (Nat.le_of_ble_eq_true rfl) fun S0 w0 => ?_
 refine T.seq (T.region ?_)
 refine TO.box (v := .slice _ _ _) rfl (fun b1 => ?_)
 refine TO.box (v := .int _ _) rfl (fun b2 => ?_)
 refine rdx (rd_assign (v := .nilFunc) rfl) ?_
 refine TO.nil (TQ.then_normal (T.seq (T.seq (T.region ?_))))
 refine rdx (rd_load (v := .int _ _) Tryz.one3 rfl (Has.own 0 rfl) rfl) ?_
 refine rdx (rd_lss rfl rfl) ?_
 refine TO.nil (TQ.then_normal ?_)
 refine T.cond rfl (fun h3 => ?_) (fun h3 => ?_)
 ·try simp only [nrm] at h3
  exfalso
  first | omega | (simp at h3; done) | (simp at h3; omega)
 try simp only [nrm] at h3
 refine T.skip (TQ.then_normal (T.seq (T.region ?_)))
 refine rdx (rd_clo (b := [_, _]) rfl) ?_
 refine rdx (rd_assign (v := .func _ _ _) rfl) ?_
 refine TO.nil (TQ.then_normal (T.ret ?_))
 refine TQ.done ((b1, b2)) (trivial) ?_ (fun _ _ h => h.sel (js := [1, 0]) (by decide)) (res1 Tryz.results109 (Res.tmp (v := .func _ _ _) rfl)) _ (.inl rfl)
 rfl
end Go.Proofs
end
section
set_option linter.unusedVariables false
set_option linter.unusedSimpArgs false
set_option maxRecDepth 100000
set_option maxHeartbeats 800000
namespace Go.Proofs
open Go.TL
attribute [local irreducible] Go.TL.T Go.TL.TO Go.TL.TQ
theorem Tryz.big100 : TyBig Tryz.prog 100 := (by kernel_rfl : (Tryz.prog.info? 100).any (fun j => j.size != 0) = true)
theorem Tryz.cells1_5 : Tryz.prog.cellsOf 5 = 1 := by kernel_rfl
theorem Tryz.field100_0 : TyField Tryz.prog 100 0 0 := fun a w => by kernel_rfl
theorem Tryz.one98 : TyOne Tryz.prog 98 := ⟨fun w => by kernel_rfl, fun w => by kernel_rfl⟩
theorem Tryz.same101 : Same Tryz.prog 101 := fun v w => by kernel_rfl
theorem Tryz.size98 : ∀ w, (sizeOf 98).run Tryz.prog w = .ok 1 w := fun w => by kernel_rfl
theorem Tryz.under134 : Tryz.prog.underlying 134 = some (.pointer 5) := by kernel_rfl
theorem Tryz.under147 : Tryz.prog.underlying 147 = some (.unsafePointer) := by kernel_rfl
theorem Tryz.under98 : Tryz.prog.underlying 98 = some (.pointer 100) := by kernel_rfl
end Go.Proofs
end
section
set_option linter.unusedVariables false
set_option linter.unusedSimpArgs false
set_option maxRecDepth 100000
set_option maxHeartbeats 800000
namespace Go.Proofs
open Go.TL
attribute [local irreducible] Go.TL.T Go.TL.TO Go.TL.TQ
theorem c_copyCheck (b tb : Nat) (av : Value) (A0 : Option Addr) (n0 c0 : Nat) (hav : av = .pointer none ∨ av = .pointer (some ⟨b, 0, none⟩)) (hT : liesAt Tryz.prog Tryz.prog.depth tb (2 / Tryz.prog.cellsOf tb) 0 100 1 = true) : Ctr Tryz.prog 93 #[.pointer (some ⟨b, 0, none⟩)] [] [own b #[av, .slice A0 n0 c0] tb] (γ := Unit) (fun _ => True) (fun _ => .tuple #[]) (fun _ => [own b #[.pointer (some ⟨b, 0, none⟩), .slice A0 n0 c0] tb]) := by
 rcases hav with rfl | rfl
 ·refine Ctr.intro Tryz.func93 rfl Tryz.ntmps93 (Nat.le_of_ble_eq_true rfl) fun S0 w0 => ?_
  refine T.seq (T.region ?_)
  refine rdx (rd_move (v := .pointer _) rfl) ?_
  refine rdx (rd_nilCheck rfl) ?_
  refine rdx (rd_fieldAddr Tryz.field100_0 rfl) ?_
  refine rdx (rd_load (v := .pointer _) Tryz.one98 rfl (Has.own 0 rfl) rfl) ?_
  refine rdx (rd_eqpn Tryz.under98 rfl rfl) ?_
  refine TO.nil (TQ.then_normal ?_)
  refine T.cond_true rfl ?_
  refine T.region ?_
  refine rdx (rd_move (v := .pointer _) rfl) ?_
  refine rdx (rd_move (v := .pointer _) rfl) ?_
  refine rdx (rd_to_unsafe Tryz.under98 Tryz.under147 Tryz.big100 rfl (Has.own 0 rfl) (Nat.succ_pos 1)) ?_
  refine rdx (rd_same Tryz.same101 rfl rfl) ?_
  refine rdx (rd_from_unsafe Tryz.under147 Tryz.under98 Tryz.big100 rfl (Has.own 0 rfl) hT) ?_
  refine rdx (rd_nilCheck rfl) ?_
  refine rdx (rd_fieldAddr Tryz.field100_0 rfl) ?_
  refine TO.store0 (cells' := #[.pointer _, .slice _ _ _]) Tryz.size98 rfl (v := .pointer _) rfl rfl rfl (Nat.le_of_ble_eq_true rfl) rfl ?_
  refine TO.nil ?_
  refine TQ.done (()) (trivial) ?_ (fun _ _ h => h.sel (js := [0]) (by decide)) (res0 Tryz.results93) _ (.inr rfl)
  rfl
 ·refine Ctr.intro Tryz.func93 rfl Tryz.ntmps93 (Nat.le_of_ble_eq_true rfl) fun S0 w0 => ?_
  refine T.seq (T.region ?_)
  refine rdx (rd_move (v := .pointer _) rfl) ?_
  refine rdx (rd_nilCheck rfl) ?_
  refine rdx (rd_fieldAddr Tryz.field100_0 rfl) ?_
  refine rdx (rd_load (v := .pointer _) Tryz.one98 rfl (Has.own 0 rfl) rfl) ?_
  refine rdx (rd_eqps Tryz.under98 rfl rfl) ?_
  refine TO.nil (TQ.then_normal ?_)
  refine T.cond_false rfl ?_
  refine T.seq (T.region ?_)
  refine rdx (rd_move (v := .pointer _) rfl) ?_
  refine rdx (rd_nilCheck rfl) ?_
  refine rdx (rd_fieldAddr Tryz.field100_0 rfl) ?_
  refine rdx (rd_load (v := .pointer _) Tryz.one98 rfl (Has.own 0 rfl) rfl) ?_
  refine rdx (rd_move (v := .pointer _) rfl) ?_
  refine rdx (rd_neqp' Tryz.under98 Tryz.big100 rfl rfl) ?_
  refine TO.nil (TQ.then_normal ?_)
  refine T.cond_false rfl ?_
  refine T.skip ?_
  refine TQ.done (()) (trivial) ?_ (fun _ _ h => h.sel (js := [0]) (by decide)) (res0 Tryz.results93) _ (.inr rfl)
  rfl
theorem c_WriteString (b tb : Nat) (t : Bytes) (s : Bytes) (hT : liesAt Tryz.prog Tryz.prog.depth tb (2 / Tryz.prog.cellsOf tb) 0 100 1 = true) (hl : t.length + s.length ≤ 1000000000000) : Ctr Tryz.prog 65 #[.pointer (some ⟨b, 0, none⟩), .string (str s)] [] [bld 5 tb b t] (γ := Unit) (fun _ => True) (fun _ => .tuple #[.int .i64 s.length, .nilIface]) (fun _ => [bld 5 tb b (t ++ s)]) := by
 refine Ctr.intro Tryz.func65 rfl Tryz.ntmps65 (Nat.le_of_ble_eq_true rfl) fun S0 w0 => ?_
 refine T.open_bld fun av A0 c0 hav => ?_
 refine T.seq (T.region ?_)
 refine rdx (rd_assign (v := .int _ _) rfl) ?_
 refine rdx (rd_assign (v := _) rfl) ?_
 refine TO.nil (TQ.then_normal (T.seq (T.region ?_)))
 refine rdx (rd_move (v := .pointer _) rfl) ?_
 refine TO.hand Tryz.enters93 rfl (c_copyCheck _ _ _ _ _ _ (by first | assumption | exact .inl rfl | exact .inr rfl) hT) rfl rfl Reads0 (fun _ hx1 => ?_)
 refine TO.nil (TQ.then_normal (T.seq (T.region ?_)))
 refine rdx (rd_move (v := .pointer _) rfl) ?_
 refine rdx (rd_move (v := .pointer _) rfl) ?_
 refine rdx (rd_nilCheck rfl) ?_
 refine rdx (rd_fieldAddr Tryz.field100_1 rfl) ?_
 refine rdx (rd_load (v := .slice _ _ _) Tryz.one62 rfl (Has.own 0 rfl) rfl) ?_
 refine rdx (rd_move (v := .string _) rfl) ?_
 refine TO.front1 ?_
 refine TO.app Tryz.trow5 Tryz.under62 (.inr Tryz.under9) rfl rfl (fun _ _ _ _ => Src.ofStr) (by simp [bytesC_length]) (List.all_eq_true.2 (bytesC_one _)) (by omega) (fun A2 c3 hc4 => ?_)
 refine rdx (rd_nilCheck rfl) ?_
 refine rdx (rd_fieldAddr Tryz.field100_1 rfl) ?_
 refine TO.front1 ?_
 refine TO.store0 (cells' := #[.pointer _, .slice _ _ _]) Tryz.size62 rfl (v := .slice _ _ _) rfl rfl rfl (Nat.le_of_ble_eq_true rfl) rfl ?_
 refine TO.nil (TQ.then_normal (T.seq (T.region ?_)))
 refine rdx (rd_move (v := .string _) rfl) ?_
 refine rdx (rd_lens' Tryz.under9 rfl) ?_
 refine rdx (rd_assign (v := .int _ _) rfl) ?_
 refine rdx (rd_assign (v := _) rfl) ?_
 refine TO.nil (TQ.then_normal (T.ret ?_))
 refine TQ.front1 ?_
 refine TQ.front1 ?_
 refine TQ.conv (fun _ _ h => Seps.tobld (t := t ++ s) (.inr rfl) (by simp) ((bytesC_append t s).symm) h) ?_
 refine TQ.done (()) (trivial) ?_ (fun _ _ h => h.sel (js := [0]) (by decide)) (res2 Tryz.results65 (Res.tmp (v := .int _ _) rfl) (Res.tmp (v := _) rfl)) _ (.inl rfl)
 rfl
theorem c_WriteByte (b tb : Nat) (t : Bytes) (c : UInt8) (hT : liesAt Tryz.prog Tryz.prog.depth tb (2 / Tryz.prog.cellsOf tb) 0 100 1 = true) (hl : t.length ≤ 1000000000000) : Ctr Tryz.prog 75 #[.pointer (some ⟨b, 0, none⟩), .int .u8 c.toNat] [] [bld 5 tb b t] (γ := Unit) (fun _ => True) (fun _ => .nilIface) (fun _ => [bld 5 tb b (t ++ [c])]) := by
 refine Ctr.intro Tryz.func75 rfl Tryz.ntmps75 (Nat.le_of_ble_eq_true rfl) fun S0 w0 => ?_
 refine T.open_bld fun av A0 c0 hav => ?_
 refine T.seq (T.region ?_)
 refine rdx (rd_assign (v := _) rfl) ?_
 refine TO.nil (TQ.then_normal (T.seq (T.region ?_)))
 refine rdx (rd_move (v := .pointer _) rfl) ?_
 refine TO.hand Tryz.enters93 rfl (c_copyCheck _ _ _ _ _ _ (by first | assumption | exact .inl rfl | exact .inr rfl) hT) rfl rfl Reads0 (fun _ hx1 => ?_)
 refine TO.nil (TQ.then_normal (T.seq (T.region ?_)))
 refine rdx (rd_move (v := .pointer _) rfl) ?_
 refine rdx (rd_move (v := .pointer _) rfl) ?_
 refine rdx (rd_nilCheck rfl) ?_
 refine rdx (rd_fieldAddr Tryz.field100_1 rfl) ?_
 refine rdx (rd_load (v := .slice _ _ _) Tryz.one62 rfl (Has.own 0 rfl) rfl) ?_
 refine rdx (rd_move (v := .int _ _) rfl) ?_
 refine TO.buildS (cs := [.int _ _]) Tryz.under62 Tryz.size5 Tryz.zero5 (Nat.le_of_ble_eq_true rfl) rfl (fun b2 => ?_)
 refine TO.front2 ?_
 refine TO.app Tryz.trow5 Tryz.under62 (.inl ⟨_, Tryz.under62⟩) rfl rfl (Src.own1 1 rfl rfl) rfl rfl (by omega) (fun A3 c4 hc5 => ?_)
 refine rdx (rd_nilCheck rfl) ?_
 refine rdx (rd_fieldAddr Tryz.field100_1 rfl) ?_
 refine TO.front2 ?_
 refine TO.store0 (cells' := #[.pointer _, .slice _ _ _]) Tryz.size62 rfl (v := .slice _ _ _) rfl rfl rfl (Nat.le_of_ble_eq_true rfl) rfl ?_
 refine TO.nil (TQ.then_normal (T.seq (T.region ?_)))
 refine rdx (rd_assign (v := _) rfl) ?_
 refine TO.nil (TQ.then_normal (T.ret ?_))
 refine TQ.front1 ?_
 refine TQ.front1 ?_
 refine TQ.conv (fun _ _ h => Seps.tobld (t := t ++ [c]) (.inr rfl) (by simp) ((bytesC_append t [c]).symm) h) ?_
 refine TQ.done (()) (trivial) ?_ (fun _ _ h => h.sel (js := [0]) (by decide)) (res1 Tryz.results75 (Res.tmp (v := _) rfl)) _ (.inl rfl)
 rfl
theorem c_String (b tb : Nat) (t : Bytes) (h0 : t ≠ []) : Ctr Tryz.prog 66 #[.pointer (some ⟨b, 0, none⟩)] [] [bld 5 tb b t] (γ := Unit) (fun _ => True) (fun _ => .string (str t)) (fun _ => []) := by
 refine Ctr.intro Tryz.func66 rfl Tryz.ntmps66 (Nat.le_of_ble_eq_true rfl) fun S0 w0 => ?_
 refine T.open_bld fun av A0 c0 hav => ?_
 refine T.front1 ?_
 refine T.rowbase (by have := List.length_pos_iff.2 h0; omega) fun b1 hb1 hc0 => ?_
 subst hb1
 refine T.seq (T.region ?_)
 refine rdx (rd_assign (v := .string _) rfl) ?_
 refine TO.nil (TQ.then_normal (T.seq ?_))
 refine T.drawq Tryz.mixes 10 [(3, 0), (4, 1), (5, 2), (6, 3), (7, 4), (8, 5), (9, 6), (10, 7), (11, 8), (12, 9)] [0, 1, 3, 7, 15, 0, 32, 96, 224, 480, 1023, 2047] (by kernel_rfl) ?_
 refine DQ.rd rfl rfl (fun _ => rd_move (v := .pointer _) rfl) ?_
 refine DQ.rd rfl rfl (fun _ => rd_nilCheck rfl) ?_
 refine DQ.rd rfl rfl (fun _ => rd_fieldAddr Tryz.field100_1 rfl) ?_
 refine DQ.rd rfl rfl (fun _ => rd_load (v := .slice _ _ _) Tryz.one62 rfl (Has.own 1 rfl) rfl) ?_
 refine DQ.rd rfl rfl (fun _ => rd_sliceData rfl (by have := List.length_pos_iff.2 h0; omega)) ?_
 refine DQ.rd rfl rfl (fun _ => rd_move (v := .pointer _) rfl) ?_
 refine DQ.rd rfl rfl (fun _ => rd_nilCheck rfl) ?_
 refine DQ.rd rfl rfl (fun _ => rd_fieldAddr Tryz.field100_1 rfl) ?_
 refine DQ.rd rfl rfl (fun _ => rd_load (v := .slice _ _ _) Tryz.one62 rfl (Has.own 1 rfl) rfl) ?_
 refine DQ.rd rfl rfl (fun _ => rd_lensl Tryz.under62 rfl) ?_
 refine DQ.done rfl ?_
 refine TO.ustr Tryz.under134 Tryz.cells1_5 rfl rfl h0 ?_
 refine rdx (rd_assign (v := .string _) rfl) ?_
 refine TO.nil (TQ.then_normal (T.ret ?_))
 refine TQ.done (()) (trivial) ?_ (fun _ _ _ => by exact trivial) (res1 Tryz.results66 (Res.tmp (v := .string _) rfl)) _ (.inl rfl)
 rfl
end Go.Proofs
end
section
set_option linter.unusedVariables false
set_option linter.unusedSimpArgs false
set_option maxRecDepth 100000
set_option maxHeartbeats 800000
namespace Go.Proofs
open Go.TL
attribute [local irreducible] Go.TL.T Go.TL.TO Go.TL.TQ
theorem c_grow (b tb n : Nat) (hn : n ≤ 100000000000000) : Ctr Tryz.prog 116 #[.pointer (some ⟨b, 0, none⟩), .int .i64 (n : Int)] [] [own b #[.pointer (some ⟨b, 0, none⟩), .slice none 0 0] tb] (γ := Unit) (fun _ => True) (fun _ => .tuple #[]) (fun _ => [bld 5 tb b []]) := by
 refine Ctr.intro Tryz.func116 rfl Tryz.ntmps116 (Nat.le_of_ble_eq_true rfl) fun S0 w0 => ?_
 refine T.newrow 5 1 ?_
 refine T.seq ?_
 refine T.drawg Tryz.mixes 14 [(5, 0), (6, 1), (7, 2), (8, 3), (9, 4), (10, 5), (11, 6), (12, 7), (13, 8), (14, 9), (15, 10), (16, 11), (17, 12), (18, 13)] [0, 1, 3, 7, 15, 31, 0, 127, 255, 0, 512, 1536, 3584, 7680, 16383, 32767] [8] (by kernel_rfl) ?_
 refine DG.rd rfl rfl rfl (fun _ _ => rd_move (v := .pointer _) rfl) ?_
 refine DG.rd rfl rfl rfl (fun _ _ => rd_nilCheck rfl) ?_
 refine DG.rd rfl rfl rfl (fun _ _ => rd_fieldAddr Tryz.field100_1 rfl) ?_
 refine DG.rd rfl rfl rfl (fun _ _ => rd_load (v := .slice _ _ _) Tryz.one62 rfl (Has.own 1 rfl) rfl) ?_
 refine DG.rd rfl rfl rfl (fun _ _ => rd_capl Tryz.under62 rfl) ?_
 refine DG.rd rfl rfl rfl (fun _ _ => rd_mul rfl rfl (w64 (by omega) (by omega))) ?_
 refine DG.rd rfl rfl rfl (fun _ _ => rd_move (v := .int _ _) rfl) ?_
 refine DG.rd rfl rfl rfl (fun _ _ => rd_add (s := (n : Int)) rfl rfl (by rw [w64 (by omega) (by omega)]; omega)) ?_
 refine DG.new (by rw [← Array.getElem?_toList]; exact rfl) rfl (fun x => .slice x.1 (n) x.2) (fun x => row 5 1 x.1 0 x.2 []) (fun ρ g M Q' h' => TO.mkz Tryz.mkz118 Tryz.under62 rfl (by omega) fun A cap _ => h' (A, cap)) ?_
 refine DG.rd rfl rfl rfl (fun _ _ => rd_move (v := .pointer _) rfl) ?_
 refine DG.rd rfl rfl rfl (fun _ _ => rd_nilCheck rfl) ?_
 refine DG.rd rfl rfl rfl (fun _ _ => rd_fieldAddr Tryz.field100_1 rfl) ?_
 refine DG.rd rfl rfl rfl (fun _ _ => rd_load (v := .slice _ _ _) Tryz.one62 rfl (Has.own 1 rfl) rfl) ?_
 refine DG.rd rfl rfl rfl (fun _ _ => rd_lensl Tryz.under62 rfl) ?_
 refine DG.done rfl (by decide) rfl (fun gh2 => ?_)
 refine rdx (rd_slice_head (j := 0) Tryz.under62 Tryz.size5 rfl rfl rfl (Nat.zero_le _)) ?_
 refine rdx (rd_assign (v := .slice _ _ _) rfl) ?_
 refine TO.nil (TQ.then_normal (T.seq (T.region ?_)))
 refine rdx (rd_move (v := .slice _ _ _) rfl) ?_
 refine rdx (rd_move (v := .pointer _) rfl) ?_
 refine rdx (rd_nilCheck rfl) ?_
 refine rdx (rd_fieldAddr Tryz.field100_1 rfl) ?_
 refine rdx (rd_load (v := .slice _ _ _) Tryz.one62 rfl (Has.own 2 rfl) rfl) ?_
 refine rdx (rd_copy0 Tryz.under62 Tryz.one1_5 rfl rfl) ?_
 refine TO.nil (TQ.then_normal (T.region ?_))
 refine rdx (rd_move (v := .pointer _) rfl) ?_
 refine rdx (rd_move (v := .slice _ _ _) rfl) ?_
 refine rdx (rd_nilCheck rfl) ?_
 refine rdx (rd_fieldAddr Tryz.field100_1 rfl) ?_
 refine TO.front2 ?_
 refine TO.store0 (cells' := #[.pointer _, .slice _ _ _]) Tryz.size62 rfl (v := .slice _ _ _) rfl rfl rfl (Nat.le_of_ble_eq_true rfl) rfl ?_
 refine TO.nil ?_
 refine TQ.front1 ?_
 refine TQ.front1 ?_
 refine TQ.conv (fun _ _ h => Seps.tobld (t := []) (.inr rfl) rfl rfl h) ?_
 refine TQ.done (()) (trivial) ?_ (fun _ _ h => h.sel (js := [0]) (by decide)) (res0 Tryz.results116) _ (.inr rfl)
 rfl
end Go.Proofs
end
section
set_option linter.unusedVariables false
set_option linter.unusedSimpArgs false
set_option maxRecDepth 100000
set_option maxHeartbeats 800000
namespace Go.Proofs
open Go.TL
attribute [local irreducible] Go.TL.T Go.TL.TO Go.TL.TQ
theorem Tryz.enters109 : Enters Tryz.prog 109 := fun args w => by kernel_rfl
theorem Tryz.enters110 : Enters Tryz.prog 110 := fun args w => by kernel_rfl
theorem Tryz.enters111 : Enters Tryz.prog 111 := fun args w => by kernel_rfl
theorem Tryz.enters113 : Enters Tryz.prog 113 := fun args w => by kernel_rfl
end Go.Proofs
end
section
set_option linter.unusedVariables false
set_option linter.unusedSimpArgs false
set_option maxRecDepth 100000
set_option maxHeartbeats 800000
namespace Go.Proofs
open Go.TL
attribute [local irreducible] Go.TL.T Go.TL.TO Go.TL.TQ
theorem c_digest_Sum (s : Bytes) (hs : s.length ≤ 1000000000000) : Cv Tryz.prog 106 #[.string (str s)] [glob 0 roundC 162] (.string (str (sha s))) := by
 refine Ctr.introM Tryz.func106 rfl Tryz.ntmps106 (Nat.le_of_ble_eq_true rfl) fun S0 w0 => ?_
 refine T.seq (T.region ?_)
 refine rdx (rd_assign (v := .string _) rfl) ?_
 refine TO.nil (TQ.then_normal (T.seq (T.region ?_)))
 refine rdx (rd_builda (cs := [.int _ _, .int _ _, .int _ _, .int _ _, .int _ _, .int _ _, .int _ _, .int _ _]) Tryz.under155 Tryz.size137 Tryz.zero155 rfl rfl) ?_
 refine TO.alloc Tryz.zero155 (fun b1 => ?_)
 refine TO.store0 (cells' := #[.int _ _, .int _ _, .int _ _, .int _ _, .int _ _, .int _ _, .int _ _, .int _ _]) Tryz.size155 rfl (v := .agg #[.int _ _, .int _ _, .int _ _, .int _ _, .int _ _, .int _ _, .int _ _, .int _ _]) rfl rfl rfl (Nat.le_of_ble_eq_true rfl) rfl ?_
 refine TO.own_eq (cells' := h8C shaH) (by rfl) ?_
 refine TO.nil (TQ.then_normal (T.seq (T.region ?_)))
 refine rdx (rd_move (v := .string _) rfl) ?_
 refine TO.str_bytes Tryz.under9 Tryz.under62 Tryz.under5 rfl (by omega) (fun b3 c4 hc5 => ?_)
 refine TO.buildS (cs := [.int _ _]) Tryz.under62 Tryz.size5 Tryz.zero5 (Nat.le_of_ble_eq_true rfl) rfl (fun b6 => ?_)
 refine TO.front1 ?_
 refine TO.app Tryz.trow5 Tryz.under62 (.inl ⟨_, Tryz.under62⟩) rfl rfl (Src.own1 1 rfl rfl) rfl rfl (by omega) (fun A7 c8 hc9 => ?_)
 refine TO.row_eq (k' := s.length + 1) (cs' := bytesC (s ++ [128] ++ List.replicate 0 0)) rfl (by simp [bytesC_append]; rfl) ?_
 refine rdx (rd_assign (v := .slice _ _ _) rfl) ?_
 refine TO.nil (TQ.then_normal (T.seq (T.block ?_)))
 refine T.loop4 [0, 3] (fun (A : Option Addr) (cap : Nat) (m : Nat) (j : Nat) => [(4, .slice A m cap)]) (fun (A : Option Addr) (cap : Nat) (m : Nat) (j : Nat) => [row 5 1 A m cap (bytesC (s ++ [128] ++ List.replicate j 0))]) (fun (A : Option Addr) (cap : Nat) (m : Nat) (j : Nat) => m = s.length + 1 + j ∧ j ≤ zeros s.length ∧ m ≤ cap) (fun (A : Option Addr) (cap : Nat) (m : Nat) (j : Nat) => zeros s.length - j) (A7) (c8) (s.length + 1) (0) (⟨by omega, Nat.zero_le _, by omega⟩) (And.intro (rfl) (trivial)) (fun _ _ h => h) fun A cap m j g0 hx0 => ?_
 obtain ⟨hm, hj, hmc⟩ := hx0
 have hz63 : zeros s.length ≤ 63 := by simp only [zeros]; omega
 refine T.seq (T.seq (T.region ?_))
 refine rdx (rd_move (v := .slice _ _ _) rfl) ?_
 refine rdx (rd_lensl Tryz.under62 rfl) ?_
 refine rdx (rd_remn (m := 64) rfl rfl rfl (by decide)) ?_
 refine rdx (rd_neq rfl rfl) ?_
 refine TO.nil (TQ.then_normal ?_)
 refine T.cond rfl (fun h10 => ?_) (fun h10 => ?_)
 ·try simp only [nrm] at h10
  refine T.skip (TQ.then_normal (T.block (T.region ?_)))
  refine rdx (rd_move (v := .slice _ _ _) rfl) ?_
  refine TO.buildS (cs := [.int _ _]) Tryz.under62 Tryz.size5 Tryz.zero5 (Nat.le_of_ble_eq_true rfl) rfl (fun b11 => ?_)
  refine TO.front1 ?_
  refine TO.app Tryz.trow5 Tryz.under62 (.inl ⟨_, Tryz.under62⟩) rfl rfl (Src.own1 1 rfl rfl) rfl rfl (by omega) (fun A12 c13 hc14 => ?_)
  refine TO.row_eq (cs' := bytesC (s ++ [128] ++ List.replicate (j + 1) 0)) rfl (by rw [List.replicate_succ', ← List.append_assoc]; exact (bytesC_append (s ++ [128] ++ List.replicate j 0) [0]).symm) ?_
  refine rdx (rd_assign (v := .slice _ _ _) rfl) ?_
  refine TO.nil (TQ.block_normal ?_)
  refine TQ.againk (A12, c13, m + 1, j + 1) ?_ ?_ (And.intro (rfl) (trivial)) (And.intro (rfl) (And.intro (rfl) (trivial))) (fun _ _ h => h.sel (js := [0, 2, 3]) (by decide))
  ·refine ⟨?_, ?_, ?_⟩ <;> dsimp only <;> (try simp only [zeros] at *) <;> omega
  ·(try simp only [zeros] at *); omega
 try simp only [nrm] at h10
 refine T.exit (TQ.then_exit (TQ.then_exit (TQ.block_out (TQ.then_normal (T.seq (T.seq (T.region ?_)))))))
 refine rdx (rd_assign (v := .int _ _) rfl) ?_
 refine TO.nil (TQ.then_normal (T.block ?_))
 refine T.loop5 [0, 3] (fun (A : Option Addr) (cap : Nat) (m : Nat) (l : Bytes) (i : Nat) => [(4, .slice A m cap), (5, .int .i64 ((i : Int) - 1))]) (fun (A : Option Addr) (cap : Nat) (m : Nat) (l : Bytes) (i : Nat) => [row 5 1 A m cap (bytesC l)]) (fun (A : Option Addr) (cap : Nat) (m : Nat) (l : Bytes) (i : Nat) => l ++ len8 s.length i = pad s ∧ m = l.length ∧ i ≤ 8 ∧ m ≤ cap) (fun (A : Option Addr) (cap : Nat) (m : Nat) (l : Bytes) (i : Nat) => i) (A) (cap) (m) (s ++ [128] ++ List.replicate j 0) (8) (⟨by rw [pad, show zeros s.length = j by simp only [zeros] at *; omega], by simp; omega, by omega, by omega⟩) (And.intro (rfl) (And.intro (rfl) (trivial))) (fun _ _ h => h) fun A cap m l i g1 hx1 => ?_
 obtain ⟨hl, hml, hi, hmc⟩ := hx1
 have hm2 : m ≤ s.length + 72 := by
  have := congrArg List.length hl
  simp only [pad, List.length_append, len8_len, List.length_replicate, List.length_cons, List.length_nil] at this
  omega
 refine T.seq (T.seq (T.region ?_))
 refine rdx (rd_move (v := .int _ _) rfl) ?_
 refine rdx (rd_geq rfl rfl) ?_
 refine TO.nil (TQ.then_normal ?_)
 refine T.cond rfl (fun h15 => ?_) (fun h15 => ?_)
 ·try simp only [nrm] at h15
  refine T.skip (TQ.then_normal (T.seq (T.block (T.region ?_))))
  refine rdx (rd_move (v := .slice _ _ _) rfl) ?_
  refine rdx (rd_move (v := .string _) rfl) ?_
  refine rdx (rd_lens' Tryz.under9 rfl) ?_
  refine rdx (rd_mul rfl rfl (w64 (by first | omega | (have := pad_le s; omega)) (by first | omega | (have := pad_le s; omega)))) ?_
  refine rdx (rd_move (v := .int _ _) rfl) ?_
  refine rdx (rd_mul rfl rfl (w64 (by first | omega | (have := pad_le s; omega)) (by first | omega | (have := pad_le s; omega)))) ?_
  refine rdx (rd_shr rfl rfl (by omega) (fdiv_pow (a := 8 * s.length) (q := 8 * (i - 1)) (by omega) (by omega))) ?_
  refine rdx (rd_convert Tryz.isome3 Tryz.under5 rfl (wrap_u8 _)) ?_
  refine TO.buildS (cs := [.int _ _]) Tryz.under62 Tryz.size5 Tryz.zero5 (Nat.le_of_ble_eq_true rfl) rfl (fun b16 => ?_)
  refine TO.front1 ?_
  refine TO.app Tryz.trow5 Tryz.under62 (.inl ⟨_, Tryz.under62⟩) rfl rfl (Src.own1 1 rfl rfl) rfl rfl (by omega) (fun A17 c18 hc19 => ?_)
  refine TO.row_eq (cs' := bytesC (l ++ [UInt8.ofNat (8 * s.length / 2 ^ (8 * (i - 1)))])) rfl (by rw [bytesC_append]; simp [bytesC, UInt8.toNat_ofNat']) ?_
  refine rdx (rd_assign (v := .slice _ _ _) rfl) ?_
  refine TO.nil (TQ.block_normal (TQ.then_normal (T.region ?_)))
  refine rdx (rd_move (v := .int _ _) rfl) ?_
  refine rdx (rd_sub rfl rfl (w64 (by first | omega | (have := pad_le s; omega)) (by first | omega | (have := pad_le s; omega)))) ?_
  refine rdx (rd_assign (v := .int _ _) rfl) ?_
  refine TO.nil ?_
  refine TQ.againk (A17, c18, m + 1, l ++ [UInt8.ofNat (8 * s.length / 2 ^ (8 * (i - 1)))], i - 1) ?_ ?_ (And.intro (rfl) (And.intro (congrArg (Value.int .i64) (by first | omega | (dsimp only; omega))) (trivial))) (And.intro (rfl) (And.intro (rfl) (trivial))) (fun _ _ h => h.sel (js := [0, 2, 3]) (by decide))
  ·refine ⟨?_, by simp; omega, by dsimp only; omega, by dsimp only; omega⟩
   rw [← hl]
   obtain ⟨q, rfl⟩ : ∃ q, i = q + 1 := ⟨i - 1, by omega⟩
   simp [len8_succ]
  ·first | omega | (dsimp only; omega)
 try simp only [nrm] at h15
 refine T.exit (TQ.then_exit (TQ.then_exit (TQ.block_out (TQ.then_normal (T.seq (T.seq (T.region ?_)))))))
 refine rdx (rd_move (v := .slice _ _ _) rfl) ?_
 have hlp : l = pad s := by rw [← hl, show i = 0 by omega]; simp [len8]
 have hm3 : m = (pad s).length := by rw [hml, hlp]
 have hp64 : m % 64 = 0 := by rw [hm3]; exact pad_len s
 have hpl : m ≤ s.length + 72 := by rw [hm3]; exact pad_le s
 refine TO.row_eq (k' := m) (cs' := bytesC (pad s)) rfl (by rw [hlp]) ?_
 refine TO.rowbase (by rw [hm3]; simp only [pad, List.length_append, List.length_cons]; omega) (fun gb hgb hcp hcm => ?_)
 subst hgb
 refine TO.fnx Tryz.enters109 (c_chunk _ _ _) rfl Reads0 (fun ⟨b120, b221⟩ hx22 => ?_)
 refine TO.nil (TQ.then_normal (T.block ?_))
 refine T.front2 ?_
 refine T.front4 ?_
 refine T.range1 (fun k (h : H8) => shaBlocks (m / 64 - k) h ((pad s).drop (64 * k)) = shaBlocks (m / 64) shaH (pad s)) (fun k (h : H8) => [own b1 (h8C h) 155, row 5 1 (some ⟨gb, 0, none⟩) m cap (bytesC (pad s))]) (fun (y : Empty) => False) (fun y => nomatch y) (fun _ => []) (shaH) rfl Tryz.enters113 (c_chunk1 _ _ _ _ _ hp64 hcp hcm) (fun _ _ h => h) (ReadsC (Has.own 0 rfl) (ReadsC (Has.own 1 rfl) Reads0)) (fun _ => rfl) (by rw [Nat.mul_zero, Nat.sub_zero, List.drop_zero]) (fun l0 b0 k h S1 w1 hk hx => ?_) (fun D h hx => ?_) (fun D y hy => ?_)
 ·refine T.region ?_
  refine rdx (rd_assign (v := .slice _ _ _) rfl) ?_
  refine TO.nil ?_
  refine TQ.begin_ ?_
  refine T.block (T.region ?_)
  refine rdx (rd_move (v := .slice _ _ _) rfl) ?_
  refine TO.front1 ?_
  refine TO.hand Tryz.enters110 rfl (c_words_add _ h _ _ _ (((pad s).take (64 * k + 64)).drop (64 * k)) (by simp only [List.length_drop, List.length_take]; omega) (by simp only [List.length_drop, List.length_take]; omega)) rfl rfl (ReadsC (Has.arg 0 rfl) (ReadsC (slc_part (i := 64 * k) (j := 64 * k + 64) (row_slc' (e := eByte) (xs := pad s) (fun _ => rfl) hm3 (bytesC_flat _) (Has.own 1 rfl)) (by omega) (by omega)) Reads0)) (fun _ _ => ?_)
  refine TO.nil (TQ.block_normal ?_)
  refine TQ.rend (shaBlock h (((pad s).take (64 * k + 64)).drop (64 * k))) ?_ (fun _ _ h => h.sel (js := [1, 0, 2]) (by decide))
  ·try dsimp only
   rw [← hx, show m / 64 - k = (m / 64 - (k + 1)) + 1 by omega, shaBlocks_succ, List.drop_drop, List.drop_take]
   rw [show 64 * k + 64 - 64 * k = 64 by omega]
   rfl
 ·refine TQ.block_normal (TQ.then_normal (T.seq (T.region ?_)))
  refine TO.front1 ?_
  refine rdx (rd_load_agg (cs := h8C h) Tryz.agg155 rfl (Has.own 0 rfl) rfl rfl) ?_
  refine TO.fn Tryz.enters111 (c_words_digest _) rfl Reads0 ?_
  refine rdx (rd_assign (v := .string _) rfl) ?_
  refine TO.nil (TQ.then_normal (T.ret ?_))
  refine TQ.front1 ?_
  refine TQ.valueM ?_ (res1 Tryz.results106 (Res.tmp (v := .string _) rfl)) _ (.inl rfl)
  rw [sha, ← hm3, ← hx, Nat.sub_self]; rfl
 exact hy.elim
end Go.Proofs
end
section
set_option linter.unusedVariables false
set_option linter.unusedSimpArgs false
set_option maxRecDepth 100000
set_option maxHeartbeats 800000
namespace Go.Proofs
open Go.TL
attribute [local irreducible] Go.TL.T Go.TL.TO Go.TL.TQ
theorem c_Grow (b tb n : Nat) (hn : n ≤ 100000000000000) (hT : liesAt Tryz.prog Tryz.prog.depth tb (2 / Tryz.prog.cellsOf tb) 0 100 1 = true) : Ctr Tryz.prog 112 #[.pointer (some ⟨b, 0, none⟩), .int .i64 (n : Int)] [] [own b #[.pointer none, .slice none 0 0] tb] (γ := Unit) (fun _ => True) (fun _ => .tuple #[]) (fun _ => [bld 5 tb b []]) := by
 refine Ctr.intro Tryz.func112 rfl Tryz.ntmps112 (Nat.le_of_ble_eq_true rfl) fun S0 w0 => ?_
 refine T.seq (T.region ?_)
 refine rdx (rd_move (v := .pointer _) rfl) ?_
 refine TO.hand Tryz.enters93 rfl (c_copyCheck _ _ _ _ _ _ (by first | assumption | exact .inl rfl | exact .inr rfl) hT) rfl rfl Reads0 (fun _ hx1 => ?_)
 refine TO.nil (TQ.then_normal (T.seq (T.seq (T.region ?_))))
 refine rdx (rd_move (v := .int _ _) rfl) ?_
 refine rdx (rd_lss rfl rfl) ?_
 refine TO.nil (TQ.then_normal ?_)
 refine T.cond rfl (fun h2 => ?_) (fun h2 => ?_)
 ·try simp only [nrm] at h2
  exfalso
  first | omega | (simp at h2; done) | (simp at h2; omega)
 try simp only [nrm] at h2
 refine T.skip (TQ.then_normal (T.seq ?_))
 refine T.drawq Tryz.mixes 12 [(9, 0), (10, 1), (11, 2), (12, 3), (13, 4), (14, 5), (15, 6), (16, 7), (17, 8), (18, 9), (19, 10), (20, 11)] [0, 1, 3, 7, 15, 0, 32, 96, 224, 480, 1023, 0, 4095] (by kernel_rfl) ?_
 refine DQ.rd rfl rfl (fun _ => rd_move (v := .pointer _) rfl) ?_
 refine DQ.rd rfl rfl (fun _ => rd_nilCheck rfl) ?_
 refine DQ.rd rfl rfl (fun _ => rd_fieldAddr Tryz.field100_1 rfl) ?_
 refine DQ.rd rfl rfl (fun _ => rd_load (v := .slice _ _ _) Tryz.one62 rfl (Has.own 0 rfl) rfl) ?_
 refine DQ.rd rfl rfl (fun _ => rd_capl Tryz.under62 rfl) ?_
 refine DQ.rd rfl rfl (fun _ => rd_move (v := .pointer _) rfl) ?_
 refine DQ.rd rfl rfl (fun _ => rd_nilCheck rfl) ?_
 refine DQ.rd rfl rfl (fun _ => rd_fieldAddr Tryz.field100_1 rfl) ?_
 refine DQ.rd rfl rfl (fun _ => rd_load (v := .slice _ _ _) Tryz.one62 rfl (Has.own 0 rfl) rfl) ?_
 refine DQ.rd rfl rfl (fun _ => rd_lensl Tryz.under62 rfl) ?_
 refine DQ.rd rfl rfl (fun _ => rd_sub rfl rfl (w64 (by omega) (by omega))) ?_
 refine DQ.rd rfl rfl (fun _ => rd_move (v := .int _ _) rfl) ?_
 refine DQ.done rfl ?_
 refine rdx (rd_lss rfl rfl) ?_
 refine TO.nil (TQ.then_normal ?_)
 refine T.cond_ft rfl (fun h3 => ?_) (fun h3 => ?_)
 ·try simp only [nrm] at h3
  refine T.skip ?_
  refine TQ.newrow 5 1 ?_
  refine TQ.front1 ?_
  refine TQ.conv (fun _ _ h => Seps.tobld (t := []) (.inr rfl) rfl rfl h) ?_
  refine TQ.done (()) (trivial) ?_ (fun _ _ h => h.sel (js := [0]) (by decide)) (res0 Tryz.results112) _ (.inr rfl)
  rfl
 try simp only [nrm] at h3
 refine T.region ?_
 refine rdx (rd_move (v := .pointer _) rfl) ?_
 refine rdx (rd_move (v := .int _ _) rfl) ?_
 refine TO.hand Tryz.enters116 rfl (c_grow _ _ _ (by omega)) rfl rfl Reads0 (fun _ hx4 => ?_)
 refine TO.nil ?_
 refine TQ.done (()) (trivial) ?_ (fun _ _ h => h.sel (js := [0]) (by decide)) (res0 Tryz.results112) _ (.inr rfl)
 rfl
theorem c_Join (A : Option Addr) (cap n : Nat) (l : List Bytes) (hn : n = l.length) (hcap : l.length ≤ cap) (hl : l.length ≤ 1000) (hl1 : 1 ≤ l.length) (hne : l.flatten ≠ []) (ht : l.flatten.length ≤ 900000000000) : Cv Tryz.prog 107 #[.slice A n cap, .string (str [])] [slc eStr 1 A l] (.string (str l.flatten)) := by
 subst hn
 have hrl : ((l.take l.length).drop 1).length = l.length - 1 := by simp
 refine Ctr.intro Tryz.func107 rfl Tryz.ntmps107 (Nat.le_of_ble_eq_true rfl) fun S0 w0 => ?_
 refine T.seq (T.region ?_)
 refine rdx (rd_assign (v := .string _) rfl) ?_
 refine TO.nil (TQ.then_normal (T.seq (T.seq (T.region ?_))))
 refine rdx (rd_move (v := .slice _ _ _) rfl) ?_
 refine rdx (rd_lensl Tryz.under32 rfl) ?_
 refine TO.nil (TQ.then_normal (T.block (T.seq (T.region ?_))))
 refine rdx (rd_eql rfl rfl) ?_
 refine rdx (rd_assign (v := .bool _) rfl) ?_
 refine TO.nil (TQ.then_normal ?_)
 refine T.cond rfl (fun h1 => ?_) (fun h1 => ?_)
 ·try simp only [nrm] at h1
  exfalso
  first | omega | (simp at h1; done) | (simp at h1; omega)
 try simp only [nrm] at h1
 refine T.seq (T.region ?_)
 refine rdx (rd_eql rfl rfl) ?_
 refine rdx (rd_assign (v := .bool _) rfl) ?_
 refine TO.nil (TQ.then_normal ?_)
 refine T.cond rfl (fun h2 => ?_) (fun h2 => ?_)
 ·try simp only [nrm] at h2
  refine T.seq (T.region ?_)
  refine rdx (rd_move (v := .slice _ _ _) rfl) ?_
  refine rdx (rd_ix (k := 0) Tryz.under32 Tryz.size9 rfl rfl (Has.arg 0 rfl) rfl (by omega) (by omega)) ?_
  refine rdx (rd_el (v := .string _) 0 0 Tryz.one9 rfl (Has.arg 0 rfl) rfl (by omega) (Nat.le_of_ble_eq_true rfl) rfl) ?_
  refine rdx (rd_assign (v := .string _) rfl) ?_
  refine TO.nil (TQ.then_normal (T.ret (TQ.block_ret (TQ.then_ret ?_))))
  refine TQ.value ?_ (res1 Tryz.results107 (Res.tmp (v := .string _) rfl)) _ (.inl rfl)
  rw [one_flat (by omega)]
 try simp only [nrm] at h2
 refine T.skip (TQ.block_normal (TQ.then_normal (T.seq (T.region ?_))))
 refine rdx (rd_assign (v := .int _ _) rfl) ?_
 refine TO.nil (TQ.then_normal (T.seq (T.seq (T.region ?_))))
 refine rdx (rd_move (v := .string _) rfl) ?_
 refine rdx (rd_lens' Tryz.under9 rfl) ?_
 refine rdx (rd_gtr rfl rfl) ?_
 refine TO.nil (TQ.then_normal ?_)
 refine T.cond rfl (fun h3 => ?_) (fun h3 => ?_)
 ·try simp only [nrm] at h3
  exfalso
  first | omega | (simp at h3; done) | (simp at h3; omega)
 try simp only [nrm] at h3
 refine T.skip (TQ.then_normal (T.seq (T.seq (T.region ?_))))
 refine rdx (rd_move (v := .slice _ _ _) rfl) ?_
 refine rdx (rd_lensl Tryz.under32 rfl) ?_
 refine rdx (rd_move (v := .int _ _) rfl) ?_
 refine TO.nil (TQ.then_normal (T.block ?_))
 refine T.loop1 [0, 1, 39, 40] (fun (k : Nat) => [(5, .int .i64 ((l.take k).flatten.length : Nat)), (41, .int .i64 (k : Nat))]) (fun (k : Nat) => []) (fun (k : Nat) => k ≤ l.length) (fun (k : Nat) => l.length - k) (0) (Nat.zero_le _) (And.intro (rfl) (And.intro (rfl) (trivial))) (fun _ _ h => h) fun k g0 hx0 => ?_
 refine T.seq (T.region ?_)
 refine rdx (rd_lss rfl rfl) ?_
 refine TO.nil (TQ.then_normal (T.seq ?_))
 refine T.cond rfl (fun h4 => ?_) (fun h4 => ?_)
 ·try simp only [nrm] at h4
  refine T.skip (TQ.then_normal (T.seq (T.block (T.seq (T.region ?_)))))
  refine rdx (rd_ix Tryz.under32 Tryz.size9 rfl rfl (Has.arg 0 rfl) rfl (by omega) (by omega)) ?_
  refine rdx (rd_el (v := .string _) _ 0 Tryz.one9 rfl (Has.arg 0 rfl) rfl (by omega) (Nat.le_of_ble_eq_true rfl) rfl) ?_
  have hst := flat_step (l := l) (k := k) (by omega)
  refine rdx (rd_assign (v := .string _) rfl) ?_
  refine TO.nil (TQ.then_normal (T.seq (T.seq (T.region ?_))))
  refine rdx (rd_move (v := .string _) rfl) ?_
  refine rdx (rd_lens' Tryz.under9 rfl) ?_
  refine rdx (rd_move (v := .int _ _) rfl) ?_
  refine rdx (rd_sub rfl rfl (w64 (by omega) (by omega))) ?_
  refine rdx (rd_gtr rfl rfl) ?_
  refine TO.nil (TQ.then_normal ?_)
  refine T.cond rfl (fun h5 => ?_) (fun h5 => ?_)
  ·try simp only [nrm] at h5
   exfalso
   first | omega | (simp at h5; done) | (simp at h5; omega)
  try simp only [nrm] at h5
  refine T.skip (TQ.then_normal (T.region ?_))
  refine rdx (rd_move (v := .int _ _) rfl) ?_
  refine rdx (rd_move (v := .string _) rfl) ?_
  refine rdx (rd_lens' Tryz.under9 rfl) ?_
  refine rdx (rd_add rfl rfl (w64 (by omega) (by omega))) ?_
  refine rdx (rd_assign (v := .int _ _) rfl) ?_
  refine TO.nil (TQ.block_normal (TQ.then_normal (T.region ?_)))
  refine rdx (rd_add rfl rfl (w64 (by omega) (by omega))) ?_
  refine rdx (rd_move (v := .int _ _) rfl) ?_
  refine TO.nil ?_
  refine TQ.againk (k + 1) ?_ ?_ (And.intro (congrArg (Value.int .i64) (by rw [hst.1]; push_cast; rfl)) (And.intro (rfl) (trivial))) (And.intro (rfl) (And.intro (rfl) (And.intro (rfl) (And.intro (rfl) (trivial))))) (fun _ _ h => h)
  ·first | omega | (dsimp only; omega)
  ·first | omega | (dsimp only; omega)
 try simp only [nrm] at h4
 refine T.exit (TQ.then_exit (TQ.then_exit (TQ.block_out (TQ.then_normal (T.seq (T.region ?_))))))
 refine TO.alloc Tryz.zero100 (fun b6 => ?_)
 refine TO.nil (TQ.then_normal (T.seq (T.region ?_)))
 refine rdx (rd_move (v := .int _ _) rfl) ?_
 have hflat : l.take k = l := List.take_of_length_le (by omega)
 rw [hflat]
 refine TO.hand Tryz.enters112 rfl (c_Grow _ _ _ (by omega) (by first | exact Tryz.lies102_100 | exact Tryz.lies100_100)) rfl rfl Reads0 (fun _ hx7 => ?_)
 refine TO.nil (TQ.then_normal (T.seq (T.region ?_)))
 refine rdx (rd_move (v := .slice _ _ _) rfl) ?_
 have hst0 := flat_step (l := l) (k := 0) (by omega)
 refine rdx (rd_ix (k := 0) Tryz.under32 Tryz.size9 rfl rfl (Has.arg 0 rfl) rfl (by omega) (by omega)) ?_
 refine rdx (rd_el (v := .string _) 0 0 Tryz.one9 rfl (Has.arg 0 rfl) rfl (by omega) (Nat.le_of_ble_eq_true rfl) rfl) ?_
 refine TO.hand Tryz.enters65 rfl (c_WriteString _ _ _ _ (by first | exact Tryz.lies102_100 | exact Tryz.lies100_100) (by first | omega | exact wishText_le _ | exact proxyText_le _ | exact puts3_le _ _ _ | (simp only [List.length_append, List.length_cons, List.length_nil, sha_len, leafOf_len, nodeOf_len, sealOf_len, List.length_take, List.length_drop]; omega) | (rw [keyB_len]; omega))) rfl rfl Reads0 (fun _ hx8 => ?_)
 refine TO.bld_eq (l[0]'(by omega) ++ (((l.take l.length).drop 1).take 0).flatten) (by simp) ?_
 refine TO.nil (TQ.then_normal (T.seq (T.seq (T.region ?_))))
 refine rdx (rd_move (v := .slice _ _ _) rfl) ?_
 refine rdx (rd_sub_slice (i := 1) (j := l.length) Tryz.under32 Tryz.size9 rfl (.inr ⟨_, rfl⟩) (.inl ⟨rfl, rfl⟩) (by omega) (by omega) hcap) ?_
 refine rdx (rd_lensl Tryz.under32 rfl) ?_
 refine rdx (rd_move (v := .int _ _) rfl) ?_
 refine TO.nil (TQ.then_normal (T.block ?_))
 refine T.loop1 [1, 8, 63, 64] (fun (k : Nat) => [(65, .int .i64 (k : Nat))]) (fun (k : Nat) => [bld 5 100 b6 (l[0]'(by omega) ++ (((l.take l.length).drop 1).take k).flatten)]) (fun (k : Nat) => k ≤ l.length - 1) (fun (k : Nat) => l.length - 1 - k) (0) (Nat.zero_le _) (And.intro (rfl) (trivial)) (fun _ _ h => h) fun k g1 hx1 => ?_
 refine T.seq (T.region ?_)
 refine rdx (rd_lss rfl rfl) ?_
 refine TO.nil (TQ.then_normal (T.seq ?_))
 refine T.cond_ft rfl (fun h9 => ?_) (fun h9 => ?_)
 ·try simp only [nrm] at h9
  refine T.exit (TQ.then_exit (TQ.then_exit (TQ.block_out (TQ.then_normal (T.seq (T.region ?_))))))
  refine TO.hand Tryz.enters66 rfl (c_String _ _ _ (by rw [List.take_of_length_le (show ((l.take l.length).drop 1).length ≤ k by simp only [List.length_drop, List.length_take]; omega), flat_cons hl1]; exact hne)) rfl rfl Reads0 (fun _ hx12 => ?_)
  refine rdx (rd_assign (v := .string _) rfl) ?_
  refine TO.nil (TQ.then_normal (T.ret ?_))
  refine TQ.value ?_ (res1 Tryz.results107 (Res.tmp (v := .string _) rfl)) _ (.inl rfl)
  rw [← flat_cons hl1, List.take_of_length_le (show ((l.take l.length).drop 1).length ≤ k by simp only [List.length_drop, List.length_take]; omega)]
 try simp only [nrm] at h9
 refine T.skip (TQ.then_normal (T.seq (T.block (T.seq (T.region ?_)))))
 refine rdx (rd_ix Tryz.under32 Tryz.size9 rfl rfl (slc_sub (i := 1) (j := l.length) (Has.arg 0 rfl) (by omega) (Nat.le_refl _) hcap) rfl (by omega) (by omega)) ?_
 refine rdx (rd_el (v := .string _) _ 0 Tryz.one9 rfl (slc_sub (i := 1) (j := l.length) (Has.arg 0 rfl) (by omega) (Nat.le_refl _) hcap) rfl (by omega) (Nat.le_of_ble_eq_true rfl) rfl) ?_
 have hst := flat_step2 (l := l) (k := k) hl1 (by simp only [List.length_drop, List.length_take]; omega)
 refine rdx (rd_assign (v := .string _) rfl) ?_
 refine TO.nil (TQ.then_normal (T.seq (T.region ?_)))
 refine rdx (rd_move (v := .string _) rfl) ?_
 refine TO.hand Tryz.enters65 rfl (c_WriteString _ _ _ _ (by first | exact Tryz.lies102_100 | exact Tryz.lies100_100) (by first | omega | exact wishText_le _ | exact proxyText_le _ | exact puts3_le _ _ _ | (simp only [List.length_append, List.length_cons, List.length_nil, sha_len, leafOf_len, nodeOf_len, sealOf_len, List.length_take, List.length_drop]; omega) | (rw [keyB_len]; omega))) rfl rfl Reads0 (fun _ hx10 => ?_)
 refine TO.bld_eq (l[0]'(by omega) ++ (((l.take l.length).drop 1).take k).flatten) (by simp) ?_
 refine TO.nil (TQ.then_normal (T.region ?_))
 refine rdx (rd_move (v := .string _) rfl) ?_
 refine TO.hand Tryz.enters65 rfl (c_WriteString _ _ _ _ (by first | exact Tryz.lies102_100 | exact Tryz.lies100_100) (by first | omega | exact wishText_le _ | exact proxyText_le _ | exact puts3_le _ _ _ | (simp only [List.length_append, List.length_cons, List.length_nil, sha_len, leafOf_len, nodeOf_len, sealOf_len, List.length_take, List.length_drop]; omega) | (rw [keyB_len]; omega))) rfl rfl Reads0 (fun _ hx11 => ?_)
 refine TO.bld_eq (l[0]'(by omega) ++ (((l.take l.length).drop 1).take (k + 1)).flatten) (by rw [← take_snoc (by simp only [List.length_drop, List.length_take]; omega)]; simp [List.append_assoc]) ?_
 refine TO.nil (TQ.block_normal (TQ.then_normal (T.region ?_)))
 refine rdx (rd_add rfl rfl (w64 (by omega) (by omega))) ?_
 refine rdx (rd_move (v := .int _ _) rfl) ?_
 refine TO.nil ?_
 refine TQ.againk (k + 1) ?_ ?_ (And.intro (rfl) (trivial)) (And.intro (rfl) (And.intro (rfl) (And.intro (rfl) (And.intro (rfl) (trivial))))) (fun _ _ h => h)
 ·first | omega | (dsimp only; omega)
 ·first | omega | (dsimp only; omega)
end Go.Proofs
end
section
set_option linter.unusedVariables false
set_option linter.unusedSimpArgs false
set_option maxRecDepth 100000
set_option maxHeartbeats 800000
namespace Go.Proofs
open Go.TL
attribute [local irreducible] Go.TL.T Go.TL.TO Go.TL.TQ
theorem c_marked1 (bm : Nat) (mk : Bytes) (A : Option Addr) (cap n : Nat) (l : List Bytes) (hn : n = l.length) (hcap : l.length ≤ cap) (hl : l.length ≤ 1000) (hl1 : 1 ≤ l.length) (hne : l.flatten ≠ []) (ht : l.flatten.length ≤ 900000000000) (hm : mk.length ≤ 1000) : Cv Tryz.prog 105 #[.slice A n cap, .pointer (some ⟨bm, 0, none⟩)] [glob 0 roundC 162, own bm #[.string (str mk)] 9, slc eStr 1 A l] (.string (str (sha (mk ++ l.flatten)))) := by
 subst hn
 refine Ctr.intro Tryz.func105 rfl Tryz.ntmps105 (Nat.le_of_ble_eq_true rfl) fun S0 w0 => ?_
 refine T.seq (T.region ?_)
 refine rdx (rd_assign (v := .string _) rfl) ?_
 refine TO.nil (TQ.then_normal (T.seq ?_))
 refine T.drawq Tryz.mixes 3 [(4, 0), (5, 1), (6, 2)] [0, 0, 2, 7, 15, 31] (by kernel_rfl) ?_
 refine DQ.rd rfl rfl (fun _ => rd_load (v := .string _) Tryz.one9 rfl (Has.arg 1 rfl) rfl) ?_
 refine DQ.rd rfl rfl (fun _ => rd_move (v := .slice _ _ _) rfl) ?_
 refine DQ.fn rfl Tryz.enters107 (c_Join _ _ _ l rfl hcap hl hl1 hne ht) (fun _ => rfl) (ReadsC (Has.arg 2 rfl) Reads0) ?_
 refine DQ.done rfl ?_
 refine rdx (rd_cat' rfl rfl (by omega) rfl) ?_
 refine TO.fn Tryz.enters106 (c_digest_Sum _ (by first | omega | exact wishText_le _ | exact proxyText_le _ | exact puts3_le _ _ _ | (simp only [List.length_append, List.length_cons, List.length_nil, sha_len, leafOf_len, nodeOf_len, sealOf_len, List.length_take, List.length_drop]; omega) | (rw [keyB_len]; omega))) rfl (ReadsC (Has.arg 0 rfl) Reads0) ?_
 refine rdx (rd_assign (v := .string _) rfl) ?_
 refine TO.nil (TQ.then_normal (T.ret ?_))
 refine TQ.value ?_ (res1 Tryz.results105 (Res.tmp (v := .string _) rfl)) _ (.inl rfl)
 rfl
theorem c_marked (mk : Bytes) : Ctr Tryz.prog 99 #[.string (str mk)] [] [] (γ := Nat) (fun x => True) (fun x => .func (.func 105) #[] #[.pointer (some ⟨x, 0, none⟩)]) (fun x => [own x #[.string (str mk)] 9]) := by
 refine Ctr.intro Tryz.func99 rfl Tryz.ntmps99 (Nat.le_of_ble_eq_true rfl) fun S0 w0 => ?_
 refine T.seq (T.region ?_)
 refine TO.box (v := .string _) rfl (fun b1 => ?_)
 refine rdx (rd_assign (v := .nilFunc) rfl) ?_
 refine TO.nil (TQ.then_normal (T.seq (T.region ?_)))
 refine rdx (rd_clo (b := [_]) rfl) ?_
 refine rdx (rd_assign (v := .func _ _ _) rfl) ?_
 refine TO.nil (TQ.then_normal (T.ret ?_))
 refine TQ.done (b1) (trivial) ?_ (fun _ _ h => h.sel (js := [0]) (by decide)) (res1 Tryz.results99 (Res.tmp (v := .func _ _ _) rfl)) _ (.inl rfl)
 rfl
theorem c_digest_Leaf (s : Bytes) (hs0 : s ≠ []) (hs : s.length ≤ 800000000000) : Cv Tryz.prog 88 #[.string (str s)] [glob 0 roundC 162] (.string (str (leafOf s))) := by
 refine Ctr.intro Tryz.func88 rfl Tryz.ntmps88 (Nat.le_of_ble_eq_true rfl) fun S0 w0 => ?_
 refine T.seq (T.region ?_)
 refine rdx (rd_assign (v := .string _) rfl) ?_
 refine TO.nil (TQ.then_normal (T.seq (T.region ?_)))
 refine TO.fnx Tryz.enters99 (c_marked _) rfl Reads0 (fun b1 hx2 => ?_)
 refine rdx (rd_move (v := .string _) rfl) ?_
 refine TO.buildS (cs := [.string _]) Tryz.under32 Tryz.size9 Tryz.zero9 (Nat.le_of_ble_eq_true rfl) rfl (fun b4 => ?_)
 refine TO.hand Tryz.enters105 rfl (c_marked1 _ _ _ _ _ [s] (by first | rfl | simp) (by first | exact Nat.le_refl _ | simp) (by simp) (by simp) (by simpa using hs0) (by simp; omega) (by simp)) rfl rfl (ReadsC (Has.arg 0 rfl) (ReadsC (Has.own 1 rfl) (ReadsC (own_slc (e := eStr) [s] rfl (fun _ => rfl) (Has.own 0 rfl) (by simp)) Reads0))) (fun _ hx5 => ?_)
 refine rdx (rd_assign (v := .string _) rfl) ?_
 refine TO.nil (TQ.then_normal (T.ret ?_))
 refine TQ.value ?_ (res1 Tryz.results88 (Res.tmp (v := .string _) rfl)) _ (.inl rfl)
 simp [leafOf]
theorem c_digest_Node (a b : Bytes) (hb0 : b ≠ []) (ha : a.length ≤ 100000000000) (hb : b.length ≤ 100000000000) : Cv Tryz.prog 87 #[.string (str a), .string (str b)] [glob 0 roundC 162] (.string (str (nodeOf a b))) := by
 refine Ctr.intro Tryz.func87 rfl Tryz.ntmps87 (Nat.le_of_ble_eq_true rfl) fun S0 w0 => ?_
 refine T.seq (T.region ?_)
 refine rdx (rd_assign (v := .string _) rfl) ?_
 refine TO.nil (TQ.then_normal (T.seq (T.region ?_)))
 refine TO.fnx Tryz.enters99 (c_marked _) rfl Reads0 (fun b1 hx2 => ?_)
 refine rdx (rd_move (v := .string _) rfl) ?_
 refine rdx (rd_move (v := .string _) rfl) ?_
 refine TO.buildS (cs := [.string _, .string _]) Tryz.under32 Tryz.size9 Tryz.zero9 (Nat.le_of_ble_eq_true rfl) rfl (fun b4 => ?_)
 refine TO.hand Tryz.enters105 rfl (c_marked1 _ _ _ _ _ [a, b] (by first | rfl | simp) (by first | exact Nat.le_refl _ | simp) (by simp) (by simp) (by simp [hb0]) (by simp; omega) (by simp)) rfl rfl (ReadsC (Has.arg 0 rfl) (ReadsC (Has.own 1 rfl) (ReadsC (own_slc (e := eStr) [a, b] rfl (fun _ => rfl) (Has.own 0 rfl) (by simp)) Reads0))) (fun _ hx5 => ?_)
 refine rdx (rd_assign (v := .string _) rfl) ?_
 refine TO.nil (TQ.then_normal (T.ret ?_))
 refine TQ.value ?_ (res1 Tryz.results87 (Res.tmp (v := .string _) rfl)) _ (.inl rfl)
 simp [nodeOf]
end Go.Proofs
end
section
set_option linter.unusedVariables false
set_option linter.unusedSimpArgs false
set_option maxRecDepth 100000
set_option maxHeartbeats 800000
namespace Go.Proofs
open Go.TL
attribute [local irreducible] Go.TL.T Go.TL.TO Go.TL.TQ
theorem Tryz.enters92 : Enters Tryz.prog 92 := fun args w => by kernel_rfl
end Go.Proofs
end
section
set_option linter.unusedVariables false
set_option linter.unusedSimpArgs false
set_option maxRecDepth 100000
set_option maxHeartbeats 800000
namespace Go.Proofs
open Go.TL
attribute [local irreducible] Go.TL.T Go.TL.TO Go.TL.TQ
theorem Tryz.one146 : TyOne Tryz.prog 146 := ⟨fun w => by kernel_rfl, fun w => by kernel_rfl⟩
theorem Tryz.size146 : ∀ w, (sizeOf 146).run Tryz.prog w = .ok 1 w := fun w => by kernel_rfl
theorem Tryz.zero62 : TyZero Tryz.prog 62 (.slice none 0 0) := fun w => by kernel_rfl
theorem Tryz.enters100 : Enters Tryz.prog 100 := fun args w => by kernel_rfl
theorem Tryz.enters108 : Enters Tryz.prog 108 := fun args w => by kernel_rfl
end Go.Proofs
end
section
set_option linter.unusedVariables false
set_option linter.unusedSimpArgs false
set_option maxRecDepth 100000
set_option maxHeartbeats 800000
namespace Go.Proofs
open Go.TL
attribute [local irreducible] Go.TL.T Go.TL.TO Go.TL.TQ
theorem c_groups1 (z b : Nat) (hz : z < 18446744073709551616) : ICtr Tryz.prog 108 [.pointer (some ⟨b, 0, none⟩)] [] [own b #[.int .u64 (z : Int)] 146] ((vint z).length) (fun k => [.int .u8 ((z / 128 ^ k % 128 : Nat) : Int), .bool (decide (((z / 128 ^ k : Nat) : Int) < 128))]) := by
 intro l G J Js hY
 refine Ctr.intro Tryz.func108 rfl Tryz.ntmps108 (Nat.le_of_ble_eq_true rfl) fun S0 w0 => ?_
 refine T.block ?_
 refine T.front1 ?_
 refine T.front1 ?_
 refine T.loop1 [0, 1] (fun (k : Nat) => []) (fun (k : Nat) => [J k, own b #[.int .u64 ((z / 128 ^ k : Nat) : Int)] 146]) (fun (k : Nat) => k < (vint z).length) (fun (k : Nat) => (vint z).length - k) (0) ((vint_len z).1) (trivial) (fun S w h => by simpa using h) fun k g0 hx0 => ?_
 refine T.block (T.seq (T.region ?_))
 refine rdx (rd_load (v := .int _ _) Tryz.one146 rfl (Has.own 1 rfl) rfl) ?_
 refine rdx (rd_lss rfl rfl) ?_
 refine rdx (rd_assign (v := .bool _) rfl) ?_
 refine TO.nil (TQ.then_normal (T.seq (T.seq (T.region ?_))))
 refine rdx (rd_move (v := .func _ _ _) rfl) ?_
 refine rdx (rd_load (v := .int _ _) Tryz.one146 rfl (Has.own 1 rfl) rfl) ?_
 refine rdx (rd_and127 rfl rfl rfl (Nat.lt_of_le_of_lt (Nat.div_le_self _ _) hz)) ?_
 refine rdx (rd_convert Tryz.isome146 Tryz.under5 rfl (show IntKind.u8.wrap _ = ((z / 128 ^ k % 128 : Nat) : Int) from by rw [wrap_u8]; omega)) ?_
 refine rdx (rd_move (v := .bool _) rfl) ?_
 refine TO.yield2 rfl (hY k hx0) rfl (fun X hX => Has.mem (List.mem_append_right _ hX)) ?_ ?_
 ·refine rdx (rd_not rfl) ?_
  refine rdx (rd_move (v := .bool _) rfl) ?_
  refine TO.guard_false (s := 13) (b' := true) rfl rfl nofun ?_
  refine rdx (rd_pick_true (v := .bool _) rfl rfl) ?_
  refine TO.nil (TQ.then_normal ?_)
  refine T.cond_true rfl ?_
  refine T.ret (TQ.then_ret (TQ.block_ret (TQ.then_ret (TQ.block_ret ?_))))
  refine TQ.done (false) (trivial) ?_ (fun _ _ h => h.sel (js := [0]) (by decide)) (res0 Tryz.results108) _ (.inl rfl)
  rfl
 refine rdx (rd_not rfl) ?_
 refine rdx (rd_move (v := .bool _) rfl) ?_
 refine TO.guard_true (s := 13) rfl rfl ?_
 refine rdx (rd_move (v := .bool _) rfl) ?_
 refine rdx (rd_pick_false (v := .bool _) rfl rfl) ?_
 refine TO.nil (TQ.then_normal ?_)
 refine T.cond rfl (fun h1 => ?_) (fun h1 => ?_)
 ·try simp only [nrm] at h1
  refine T.ret (TQ.then_ret (TQ.block_ret (TQ.then_ret (TQ.block_ret ?_))))
  have hv := (vint_at hz hx0).2
  refine TQ.done (true) (trivial) ?_ (fun _ _ h => by rw [show (vint z).length = k + 1 by omega]; exact h.sel (js := [0]) (by decide)) (res0 Tryz.results108) _ (.inl rfl)
  rfl
 try simp only [nrm] at h1
 refine T.skip (TQ.then_normal (T.region ?_))
 refine rdx (rd_load (v := .int _ _) Tryz.one146 rfl (Has.own 1 rfl) rfl) ?_
 refine rdx (rd_shr7' (q := z / 128 ^ (k + 1)) rfl rfl rfl (by rw [Nat.div_div_eq_div_mul, Nat.pow_succ])) ?_
 refine TO.front1 ?_
 refine TO.store0 (cells' := #[.int _ _]) Tryz.size146 rfl (v := .int _ _) rfl rfl rfl (Nat.le_of_ble_eq_true rfl) rfl ?_
 refine TO.nil (TQ.block_normal ?_)
 have hv := (vint_at hz hx0).2
 have hk1 : k + 1 < (vint z).length := by omega
 refine TQ.againk (k + 1) ?_ ?_ (trivial) (And.intro (rfl) (And.intro (rfl) (trivial))) (fun _ _ h => h.sel (js := [1, 0]) (by decide))
 ·exact hk1
 ·omega
theorem c_groups (z : Int) : Ctr Tryz.prog 100 #[.int .u64 z] [] [] (γ := Nat) (fun x => True) (fun x => .func (.func 108) #[] #[.pointer (some ⟨x, 0, none⟩)]) (fun x => [own x #[.int .u64 z] 146]) := by
 refine Ctr.intro Tryz.func100 rfl Tryz.ntmps100 (Nat.le_of_ble_eq_true rfl) fun S0 w0 => ?_
 refine T.seq (T.region ?_)
 refine TO.box (v := .int _ _) rfl (fun b1 => ?_)
 refine rdx (rd_assign (v := .nilFunc) rfl) ?_
 refine TO.nil (TQ.then_normal (T.seq (T.region ?_)))
 refine rdx (rd_clo (b := [_]) rfl) ?_
 refine rdx (rd_assign (v := .func _ _ _) rfl) ?_
 refine TO.nil (TQ.then_normal (T.ret ?_))
 refine TQ.done (b1) (trivial) ?_ (fun _ _ h => h.sel (js := [0]) (by decide)) (res1 Tryz.results100 (Res.tmp (v := .func _ _ _) rfl)) _ (.inl rfl)
 rfl
theorem c_wire_PutInt (n : Int) : Cv Tryz.prog 92 #[.int .i64 n] [] (.tuple #[.string (str (putInt n)), .int .i64 (putErr n)]) := by
 refine Ctr.introM Tryz.func92 rfl Tryz.ntmps92 (Nat.le_of_ble_eq_true rfl) fun S0 w0 => ?_
 refine T.seq (T.region ?_)
 refine rdx (rd_assign (v := .string _) rfl) ?_
 refine rdx (rd_assign (v := .int _ _) rfl) ?_
 refine TO.nil (TQ.then_normal (T.seq (T.seq (T.region ?_))))
 refine rdx (rd_move (v := .int _ _) rfl) ?_
 refine rdx (rd_lss rfl rfl) ?_
 refine rdx (rd_move (v := .bool _) rfl) ?_
 refine TO.decide (s := 9) rfl (fun h1 => ?_) (fun h1 => ?_)
 ·try simp only [nrm] at h1
  refine TO.guard_false (s := 9) (b' := true) rfl rfl nofun ?_
  refine TO.guard_false (s := 9) (b' := true) rfl rfl nofun ?_
  refine rdx (rd_pick_true (v := .bool _) rfl rfl) ?_
  refine TO.nil (TQ.then_normal ?_)
  refine T.cond_true rfl ?_
  refine T.seq (T.region ?_)
  refine rdx (rd_assign (v := .string _) rfl) ?_
  refine rdx (rd_assign (v := .int _ _) rfl) ?_
  refine TO.nil (TQ.then_normal (T.ret (TQ.then_ret ?_)))
  refine TQ.valueN ?_ (res2 Tryz.results92 (Res.tmp (v := .string _) rfl) (Res.tmp (v := .int _ _) rfl)) _ (.inl rfl)
  rw [putInt, putErr, if_neg (by omega), if_neg (by omega)]; rfl
 try simp only [nrm] at h1
 refine TO.guard_true (s := 9) rfl rfl ?_
 refine rdx (rd_move (v := .int _ _) rfl) ?_
 refine TO.guard_true (s := 9) rfl rfl ?_
 refine rdx (rd_gtr rfl rfl) ?_
 refine rdx (rd_pick_false (v := .bool _) rfl rfl) ?_
 refine TO.nil (TQ.then_normal ?_)
 refine T.cond rfl (fun h2 => ?_) (fun h2 => ?_)
 ·try simp only [nrm] at h2
  refine T.seq (T.region ?_)
  refine rdx (rd_assign (v := .string _) rfl) ?_
  refine rdx (rd_assign (v := .int _ _) rfl) ?_
  refine TO.nil (TQ.then_normal (T.ret (TQ.then_ret ?_)))
  refine TQ.valueN ?_ (res2 Tryz.results92 (Res.tmp (v := .string _) rfl) (Res.tmp (v := .int _ _) rfl)) _ (.inl rfl)
  rw [putInt, putErr, if_neg (by omega), if_neg (by omega)]; rfl
 try simp only [nrm] at h2
 refine T.skip (TQ.then_normal (T.seq (T.region ?_)))
 refine TO.alloc Tryz.zero62 (fun b3 => ?_)
 refine TO.newrow 5 1 ?_
 refine TO.nil (TQ.then_normal (T.seq (T.seq (T.region ?_))))
 refine rdx (rd_move (v := .int _ _) rfl) ?_
 refine rdx (rd_convert Tryz.isome3 Tryz.under146 rfl rfl) ?_
 refine rdx (rd_shl rfl rfl (by omega) (zz_shl n)) ?_
 refine rdx (rd_move (v := .int _ _) rfl) ?_
 refine rdx (rd_shr rfl rfl (by first | decide | omega) rfl) ?_
 refine rdx (rd_convert Tryz.isome3 Tryz.under146 rfl (zz_sgn (by omega) (by omega))) ?_
 refine rdx (rd_xor rfl rfl (zz_zig (by omega) (by omega))) ?_
 refine TO.fnx Tryz.enters100 (c_groups _) rfl Reads0 (fun b4 hx5 => ?_)
 refine TO.nil (TQ.then_normal (T.block ?_))
 refine T.front1 ?_
 refine T.front2 ?_
 refine T.range2 (fun k (A : Option Addr) (cap : Nat) => True) (fun k (A : Option Addr) (cap : Nat) => [own b3 #[.slice A k cap] 62, row 5 1 A k cap (bytesC ((vint (zig n)).take k))]) (fun (y : Empty) => False) (fun y => nomatch y) (fun _ => []) (none) (0) rfl Tryz.enters108 (c_groups1 (zig n) _ (by have := zig_lt (n := n) (by omega) (by omega); omega)) (fun _ _ h => h) Reads0 (fun _ => rfl) (trivial) (fun l0 b0 k A cap S1 w1 hk hx => ?_) (fun D A cap hx => ?_) (fun D y hy => ?_)
 ·have hvl := (vint_len (zig n)).2
  have hzl : zig n < 18446744073709551616 := by have := zig_lt (n := n) (by omega) (by omega); omega
  refine T.seq (T.region ?_)
  refine rdx (rd_assign (v := .int _ _) rfl) ?_
  refine TO.nil (TQ.then_normal (T.region ?_))
  refine rdx (rd_assign (v := .bool _) rfl) ?_
  refine TO.nil ?_
  refine TQ.begin_ ?_
  refine T.block (T.seq (T.seq (T.region ?_)))
  refine rdx (rd_move (v := .bool _) rfl) ?_
  refine rdx (rd_not rfl) ?_
  refine TO.nil (TQ.then_normal ?_)
  refine T.cond_ft rfl (fun h7 => ?_) (fun h7 => ?_)
  ·try simp only [nrm] at h7
   refine T.skip (TQ.then_normal (T.region ?_))
   refine rdx (rd_load (v := .slice _ _ _) Tryz.one62 rfl (Has.own 1 rfl) rfl) ?_
   refine rdx (rd_move (v := .int _ _) rfl) ?_
   refine TO.buildS (cs := [.int _ _]) Tryz.under62 Tryz.size5 Tryz.zero5 (Nat.le_of_ble_eq_true rfl) rfl (fun b12 => ?_)
   refine TO.front3 ?_
   refine TO.app Tryz.trow5 Tryz.under62 (.inl ⟨_, Tryz.under62⟩) rfl rfl (Src.own1 1 rfl rfl) rfl rfl (by omega) (fun A13 c14 hc15 => ?_)
   refine TO.row_eq (k' := k + 1) (cs' := bytesC ((vint (zig n)).take (k + 1))) rfl (vint_snoc hzl hk (by first | (rw [if_pos (by omega)]) | (rw [if_neg (by omega)]))) ?_
   refine TO.front3 ?_
   refine TO.store0 (cells' := #[.slice _ _ _]) Tryz.size62 rfl (v := .slice _ _ _) rfl rfl rfl (Nat.le_of_ble_eq_true rfl) rfl ?_
   refine TO.nil (TQ.block_normal ?_)
   refine TQ.rend (A13, c14) ?_ (fun _ _ h => h.sel (js := [3, 0, 1]) (by decide))
   ·exact trivial
  try simp only [nrm] at h7
  refine T.region ?_
  refine rdx (rd_move (v := .int _ _) rfl) ?_
  refine rdx (rd_or128 rfl rfl rfl (Nat.mod_lt _ (by omega))) ?_
  refine rdx (rd_assign (v := .int _ _) rfl) ?_
  refine TO.nil (TQ.then_normal (T.region ?_))
  refine rdx (rd_load (v := .slice _ _ _) Tryz.one62 rfl (Has.own 1 rfl) rfl) ?_
  refine rdx (rd_move (v := .int _ _) rfl) ?_
  refine TO.buildS (cs := [.int _ _]) Tryz.under62 Tryz.size5 Tryz.zero5 (Nat.le_of_ble_eq_true rfl) rfl (fun b8 => ?_)
  refine TO.front3 ?_
  refine TO.app Tryz.trow5 Tryz.under62 (.inl ⟨_, Tryz.under62⟩) rfl rfl (Src.own1 1 rfl rfl) rfl rfl (by omega) (fun A9 c10 hc11 => ?_)
  refine TO.row_eq (k' := k + 1) (cs' := bytesC ((vint (zig n)).take (k + 1))) rfl (vint_snoc hzl hk (by first | (rw [if_pos (by omega)]) | (rw [if_neg (by omega)]))) ?_
  refine TO.front3 ?_
  refine TO.store0 (cells' := #[.slice _ _ _]) Tryz.size62 rfl (v := .slice _ _ _) rfl rfl rfl (Nat.le_of_ble_eq_true rfl) rfl ?_
  refine TO.nil (TQ.block_normal ?_)
  refine TQ.rend (A9, c10) ?_ (fun _ _ h => h.sel (js := [3, 0, 1]) (by decide))
  ·exact trivial
 ·refine TQ.block_normal (TQ.then_normal (T.seq (T.region ?_)))
  refine rdx (rd_load (v := .slice _ _ _) Tryz.one62 rfl (Has.own 1 rfl) rfl) ?_
  refine rdx (rd_row_str Tryz.under62 Tryz.under5 Tryz.under9 rfl (Has.own 2 rfl)) ?_
  refine rdx (rd_assign (v := .string _) rfl) ?_
  refine rdx (rd_assign (v := .int _ _) rfl) ?_
  refine TO.nil (TQ.then_normal (T.ret ?_))
  refine TQ.valueM ?_ (res2 Tryz.results92 (Res.tmp (v := .string _) rfl) (Res.tmp (v := .int _ _) rfl)) _ (.inl rfl)
  rw [putInt, putErr, if_pos (by omega), if_pos (by omega), List.take_of_length_le (Nat.le_refl _)]
 exact hy.elim
end Go.Proofs
end
section
set_option linter.unusedVariables false
set_option linter.unusedSimpArgs false
set_option maxRecDepth 100000
set_option maxHeartbeats 800000
namespace Go.Proofs
open Go.TL
attribute [local irreducible] Go.TL.T Go.TL.TO Go.TL.TQ
theorem c_numbers (b : Nat) (t : Bytes) (A : Option Addr) (cap n : Nat) (l : List Int) (hn : n = l.length) (hl : l.length ≤ 1000) (ht : t.length ≤ 100000000000) : Ctr Tryz.prog 64 #[.pointer (some ⟨b, 0, none⟩), .slice A n cap] [slc eInt 1 A l] [bld 5 102 b t] (γ := Unit) (fun _ => True) (fun _ => .tuple #[]) (fun _ => [bld 5 102 b (t ++ puts l)]) := by
 subst hn
 refine Ctr.intro Tryz.func64 rfl Tryz.ntmps64 (Nat.le_of_ble_eq_true rfl) fun S0 w0 => ?_
 refine T.seq (T.region ?_)
 refine rdx (rd_move (v := .slice _ _ _) rfl) ?_
 refine rdx (rd_lensl Tryz.under110 rfl) ?_
 refine rdx (rd_move (v := .int _ _) rfl) ?_
 refine TO.nil (TQ.then_normal (T.block ?_))
 refine T.loop1 [0, 8, 9] (fun (k : Nat) => [(10, .int .i64 (k : Nat))]) (fun (k : Nat) => [bld 5 102 b (t ++ puts (l.take k))]) (fun (k : Nat) => k ≤ l.length) (fun (k : Nat) => l.length - k) (0) (Nat.zero_le _) (And.intro (rfl) (trivial)) (fun S w h => by simpa [puts] using h) fun k g0 hx0 => ?_
 have hpl := puts_length (l.take k)
 rw [List.length_take] at hpl
 refine T.seq (T.region ?_)
 refine rdx (rd_lss rfl rfl) ?_
 refine TO.nil (TQ.then_normal (T.seq ?_))
 refine T.cond_ft rfl (fun h1 => ?_) (fun h1 => ?_)
 ·try simp only [nrm] at h1
  refine T.exit (TQ.then_exit (TQ.then_exit (TQ.block_out ?_)))
  refine TQ.conv (fun _ _ h => by rwa [show l.take k = l from List.take_of_length_le (by omega)] at h) ?_
  refine TQ.done (()) (trivial) ?_ (fun _ _ h => h.sel (js := [0]) (by decide)) (res0 Tryz.results64) _ (.inr rfl)
  rfl
 try simp only [nrm] at h1
 refine T.skip (TQ.then_normal (T.seq (T.block (T.seq (T.region ?_)))))
 refine rdx (rd_ix Tryz.under110 Tryz.size3 rfl rfl (Has.arg 0 rfl) rfl (by omega) (by omega)) ?_
 refine rdx (rd_el (v := .int _ _) _ 0 Tryz.one3 rfl (Has.arg 0 rfl) rfl (by omega) (Nat.le_of_ble_eq_true rfl) rfl) ?_
 have hpi := putInt_length (l[k]'(by omega))
 refine rdx (rd_assign (v := .int _ _) rfl) ?_
 refine TO.nil (TQ.then_normal (T.seq (T.region ?_)))
 refine rdx (rd_move (v := .int _ _) rfl) ?_
 refine TO.fn Tryz.enters92 (c_wire_PutInt _) rfl Reads0 ?_
 refine rdx (rd_move (v := .tuple _) rfl) ?_
 refine rdx (rd_extract (v := .string _) (vs := _) rfl rfl) ?_
 refine rdx (rd_extract (v := .int _ _) (vs := _) rfl rfl) ?_
 refine rdx (rd_assign (v := .string _) rfl) ?_
 refine rdx (rd_assign (v := .int _ _) rfl) ?_
 refine TO.nil (TQ.then_normal (T.region ?_))
 refine rdx (rd_move (v := .pointer _) rfl) ?_
 refine rdx (rd_nilCheck rfl) ?_
 refine rdx (rd_fieldAddr Tryz.field102_0 rfl) ?_
 refine rdx (rd_move (v := .string _) rfl) ?_
 refine TO.hand Tryz.enters65 rfl (c_WriteString _ _ _ _ (by first | exact Tryz.lies102_100 | exact Tryz.lies100_100) (by first | omega | exact wishText_le _ | exact proxyText_le _ | exact puts3_le _ _ _ | (simp only [List.length_append, List.length_cons, List.length_nil, sha_len, leafOf_len, nodeOf_len, sealOf_len, List.length_take, List.length_drop]; omega) | (rw [keyB_len]; omega))) rfl rfl Reads0 (fun _ hx2 => ?_)
 refine TO.bld_eq (t ++ puts (l.take (k + 1))) (by rw [← take_snoc (by omega), puts_snoc, List.append_assoc]) ?_
 refine TO.nil (TQ.block_normal (TQ.then_normal (T.region ?_)))
 refine rdx (rd_add rfl rfl (w64 (by omega) (by omega))) ?_
 refine rdx (rd_move (v := .int _ _) rfl) ?_
 refine TO.nil ?_
 refine TQ.againk (k + 1) ?_ ?_ (And.intro (rfl) (trivial)) (And.intro (rfl) (And.intro (rfl) (And.intro (rfl) (trivial)))) (fun _ _ h => h)
 ·first | omega | (dsimp only; omega)
 ·first | omega | (dsimp only; omega)
theorem c_writer_wish (b : Nat) (t : Bytes) (w : Wish) (ht : t.length ≤ 100000000000) : Ctr Tryz.prog 54 #[.pointer (some ⟨b, 0, none⟩), wishV w] [] [bld 5 102 b t] (γ := Unit) (fun _ => True) (fun _ => .tuple #[]) (fun _ => [bld 5 102 b (t ++ wishText w)]) := by
 refine Ctr.intro Tryz.func54 rfl Tryz.ntmps54 (Nat.le_of_ble_eq_true rfl) fun S0 w0 => ?_
 refine T.seq (T.region ?_)
 refine TO.box (v := .agg #[.int _ _, .int _ _, .int _ _, .int _ _, .int _ _, .int _ _, .int _ _, .int _ _, .string _]) rfl (fun b1 => ?_)
 refine TO.nil (TQ.then_normal (T.region ?_))
 refine rdx (rd_move (v := .pointer _) rfl) ?_
 refine rdx (rd_fieldAddr Tryz.field30_0 rfl) ?_
 refine rdx (rd_load (v := .int _ _) Tryz.one3 rfl (Has.own 0 rfl) rfl) ?_
 refine rdx (rd_fieldAddr Tryz.field30_1 rfl) ?_
 refine rdx (rd_load (v := .int _ _) Tryz.one3 rfl (Has.own 0 rfl) rfl) ?_
 refine rdx (rd_fieldAddr Tryz.field30_2 rfl) ?_
 refine rdx (rd_fieldAddr Tryz.field27_0 rfl) ?_
 refine rdx (rd_load (v := .int _ _) Tryz.one3 rfl (Has.own 0 rfl) rfl) ?_
 refine rdx (rd_fieldAddr Tryz.field30_2 rfl) ?_
 refine rdx (rd_fieldAddr Tryz.field27_1 rfl) ?_
 refine rdx (rd_load (v := .int _ _) Tryz.one3 rfl (Has.own 0 rfl) rfl) ?_
 refine rdx (rd_fieldAddr Tryz.field30_3 rfl) ?_
 refine rdx (rd_load (v := .int _ _) Tryz.one3 rfl (Has.own 0 rfl) rfl) ?_
 refine rdx (rd_fieldAddr Tryz.field30_4 rfl) ?_
 refine rdx (rd_load (v := .int _ _) Tryz.one3 rfl (Has.own 0 rfl) rfl) ?_
 refine rdx (rd_fieldAddr Tryz.field30_5 rfl) ?_
 refine rdx (rd_fieldAddr Tryz.field28_0 rfl) ?_
 refine rdx (rd_load (v := .int _ _) Tryz.one3 rfl (Has.own 0 rfl) rfl) ?_
 refine rdx (rd_fieldAddr Tryz.field30_5 rfl) ?_
 refine rdx (rd_fieldAddr Tryz.field28_1 rfl) ?_
 refine rdx (rd_load (v := .int _ _) Tryz.one3 rfl (Has.own 0 rfl) rfl) ?_
 refine TO.buildS (cs := [.int _ _, .int _ _, .int _ _, .int _ _, .int _ _, .int _ _, .int _ _, .int _ _, .int _ _]) Tryz.under110 Tryz.size3 Tryz.zero3 (Nat.le_of_ble_eq_true rfl) rfl (fun b2 => ?_)
 refine TO.front2 ?_
 refine TO.hand Tryz.enters64 rfl (c_numbers _ _ _ _ _ [1, w.signer, w.holder, w.rlo, w.rhi, w.carrier, w.serial, w.slo, w.shi] (by first | rfl | simp) (by simp) (by first | omega | exact Nat.zero_le _)) rfl rfl (ReadsC (own_slc (e := eInt) [1, w.signer, w.holder, w.rlo, w.rhi, w.carrier, w.serial, w.slo, w.shi] rfl (fun _ => rfl) (Has.own 0 rfl) (by simp)) Reads0) (fun _ hx3 => ?_)
 refine TO.nil ?_
 refine TQ.done (()) (trivial) ?_ (fun _ _ h => h.sel (js := [0]) (by decide)) (res0 Tryz.results54) _ (.inr rfl)
 rfl
theorem c_writer_proxy (b : Nat) (t : Bytes) (p : Proxy) (ht : t.length ≤ 100000000000) : Ctr Tryz.prog 52 #[.pointer (some ⟨b, 0, none⟩), proxyV p] [] [bld 5 102 b t] (γ := Unit) (fun _ => True) (fun _ => .tuple #[]) (fun _ => [bld 5 102 b (t ++ proxyText p)]) := by
 refine Ctr.intro Tryz.func52 rfl Tryz.ntmps52 (Nat.le_of_ble_eq_true rfl) fun S0 w0 => ?_
 refine T.seq (T.region ?_)
 refine TO.box (v := .agg #[.int _ _, .int _ _, .int _ _, .int _ _, .int _ _, .int _ _, .string _]) rfl (fun b1 => ?_)
 refine TO.nil (TQ.then_normal (T.region ?_))
 refine rdx (rd_move (v := .pointer _) rfl) ?_
 refine rdx (rd_fieldAddr Tryz.field40_0 rfl) ?_
 refine rdx (rd_load (v := .int _ _) Tryz.one3 rfl (Has.own 0 rfl) rfl) ?_
 refine rdx (rd_fieldAddr Tryz.field40_1 rfl) ?_
 refine rdx (rd_load (v := .int _ _) Tryz.one3 rfl (Has.own 0 rfl) rfl) ?_
 refine rdx (rd_fieldAddr Tryz.field40_2 rfl) ?_
 refine rdx (rd_fieldAddr Tryz.field27_0 rfl) ?_
 refine rdx (rd_load (v := .int _ _) Tryz.one3 rfl (Has.own 0 rfl) rfl) ?_
 refine rdx (rd_fieldAddr Tryz.field40_2 rfl) ?_
 refine rdx (rd_fieldAddr Tryz.field27_1 rfl) ?_
 refine rdx (rd_load (v := .int _ _) Tryz.one3 rfl (Has.own 0 rfl) rfl) ?_
 refine rdx (rd_fieldAddr Tryz.field40_3 rfl) ?_
 refine rdx (rd_fieldAddr Tryz.field28_0 rfl) ?_
 refine rdx (rd_load (v := .int _ _) Tryz.one3 rfl (Has.own 0 rfl) rfl) ?_
 refine rdx (rd_fieldAddr Tryz.field40_3 rfl) ?_
 refine rdx (rd_fieldAddr Tryz.field28_1 rfl) ?_
 refine rdx (rd_load (v := .int _ _) Tryz.one3 rfl (Has.own 0 rfl) rfl) ?_
 refine TO.buildS (cs := [.int _ _, .int _ _, .int _ _, .int _ _, .int _ _, .int _ _, .int _ _]) Tryz.under110 Tryz.size3 Tryz.zero3 (Nat.le_of_ble_eq_true rfl) rfl (fun b2 => ?_)
 refine TO.front2 ?_
 refine TO.hand Tryz.enters64 rfl (c_numbers _ _ _ _ _ [2, p.frm, p.to, p.rlo, p.rhi, p.slo, p.shi] (by first | rfl | simp) (by simp) (by first | omega | exact Nat.zero_le _)) rfl rfl (ReadsC (own_slc (e := eInt) [2, p.frm, p.to, p.rlo, p.rhi, p.slo, p.shi] rfl (fun _ => rfl) (Has.own 0 rfl) (by simp)) Reads0) (fun _ hx3 => ?_)
 refine TO.nil ?_
 refine TQ.done (()) (trivial) ?_ (fun _ _ h => h.sel (js := [0]) (by decide)) (res0 Tryz.results52) _ (.inr rfl)
 rfl
end Go.Proofs
end
section
set_option linter.unusedVariables false
set_option linter.unusedSimpArgs false
set_option maxRecDepth 100000
set_option maxHeartbeats 800000
namespace Go.Proofs
open Go.TL
attribute [local irreducible] Go.TL.T Go.TL.TO Go.TL.TQ
theorem c_SignWish1 (b bw : Nat) (w : Wish) : Ctr Tryz.prog 59 #[.pointer (some ⟨b, 0, none⟩), .pointer (some ⟨bw, 0, none⟩)] [own bw (wishC w) 30] [bld 5 102 b []] (γ := Unit) (fun _ => True) (fun _ => .tuple #[]) (fun _ => [bld 5 102 b (wishText w)]) := by
 refine Ctr.intro Tryz.func59 rfl Tryz.ntmps59 (Nat.le_of_ble_eq_true rfl) fun S0 w0 => ?_
 refine T.region ?_
 refine rdx (rd_move (v := .pointer _) rfl) ?_
 refine rdx (rd_load_agg (cs := wishC w) Tryz.agg30 rfl (Has.arg 0 rfl) rfl rfl) ?_
 refine TO.hand Tryz.enters54 rfl (c_writer_wish _ _ _ (by first | omega | (simp only [List.length_nil]; omega) | exact Nat.zero_le _ | (simp only [List.length_append]; omega))) rfl rfl Reads0 (fun _ hx1 => ?_)
 refine TO.nil ?_
 refine TQ.done (()) (trivial) ?_ (fun _ _ h => h.sel (js := [0]) (by decide)) (res0 Tryz.results59) _ (.inr rfl)
 rfl
theorem c_Why3 (b bw : Nat) (w : Wish) : Ctr Tryz.prog 53 #[.pointer (some ⟨b, 0, none⟩), .pointer (some ⟨bw, 0, none⟩)] [own bw (wishC w) 30] [bld 5 102 b []] (γ := Unit) (fun _ => True) (fun _ => .tuple #[]) (fun _ => [bld 5 102 b (wishText w)]) := by
 refine Ctr.intro Tryz.func53 rfl Tryz.ntmps53 (Nat.le_of_ble_eq_true rfl) fun S0 w0 => ?_
 refine T.region ?_
 refine rdx (rd_move (v := .pointer _) rfl) ?_
 refine rdx (rd_load_agg (cs := wishC w) Tryz.agg30 rfl (Has.arg 0 rfl) rfl rfl) ?_
 refine TO.hand Tryz.enters54 rfl (c_writer_wish _ _ _ (by first | omega | (simp only [List.length_nil]; omega) | exact Nat.zero_le _ | (simp only [List.length_append]; omega))) rfl rfl Reads0 (fun _ hx1 => ?_)
 refine TO.nil ?_
 refine TQ.done (()) (trivial) ?_ (fun _ _ h => h.sel (js := [0]) (by decide)) (res0 Tryz.results53) _ (.inr rfl)
 rfl
theorem c_SignProxy1 (b bw : Nat) (p : Proxy) : Ctr Tryz.prog 61 #[.pointer (some ⟨b, 0, none⟩), .pointer (some ⟨bw, 0, none⟩)] [own bw (proxyC p) 40] [bld 5 102 b []] (γ := Unit) (fun _ => True) (fun _ => .tuple #[]) (fun _ => [bld 5 102 b (proxyText p)]) := by
 refine Ctr.intro Tryz.func61 rfl Tryz.ntmps61 (Nat.le_of_ble_eq_true rfl) fun S0 w0 => ?_
 refine T.region ?_
 refine rdx (rd_move (v := .pointer _) rfl) ?_
 refine rdx (rd_load_agg (cs := proxyC p) Tryz.agg40 rfl (Has.arg 0 rfl) rfl rfl) ?_
 refine TO.hand Tryz.enters52 rfl (c_writer_proxy _ _ _ (by first | omega | (simp only [List.length_nil]; omega) | exact Nat.zero_le _ | (simp only [List.length_append]; omega))) rfl rfl Reads0 (fun _ hx1 => ?_)
 refine TO.nil ?_
 refine TQ.done (()) (trivial) ?_ (fun _ _ h => h.sel (js := [0]) (by decide)) (res0 Tryz.results61) _ (.inr rfl)
 rfl
theorem c_Why2 (b bw : Nat) (p : Proxy) : Ctr Tryz.prog 51 #[.pointer (some ⟨b, 0, none⟩), .pointer (some ⟨bw, 0, none⟩)] [own bw (proxyC p) 40] [bld 5 102 b []] (γ := Unit) (fun _ => True) (fun _ => .tuple #[]) (fun _ => [bld 5 102 b (proxyText p)]) := by
 refine Ctr.intro Tryz.func51 rfl Tryz.ntmps51 (Nat.le_of_ble_eq_true rfl) fun S0 w0 => ?_
 refine T.region ?_
 refine rdx (rd_move (v := .pointer _) rfl) ?_
 refine rdx (rd_load_agg (cs := proxyC p) Tryz.agg40 rfl (Has.arg 0 rfl) rfl rfl) ?_
 refine TO.hand Tryz.enters52 rfl (c_writer_proxy _ _ _ (by first | omega | (simp only [List.length_nil]; omega) | exact Nat.zero_le _ | (simp only [List.length_append]; omega))) rfl rfl Reads0 (fun _ hx1 => ?_)
 refine TO.nil ?_
 refine TQ.done (()) (trivial) ?_ (fun _ _ h => h.sel (js := [0]) (by decide)) (res0 Tryz.results51) _ (.inr rfl)
 rfl
theorem c_Account1 (b b1 b2 : Nat) (n e : Int) : Ctr Tryz.prog 74 #[.pointer (some ⟨b, 0, none⟩), .pointer (some ⟨b1, 0, none⟩), .pointer (some ⟨b2, 0, none⟩)] [own b1 #[.int .i64 n] 3, own b2 #[.int .i64 e] 3] [bld 5 102 b []] (γ := Unit) (fun _ => True) (fun _ => .tuple #[]) (fun _ => [bld 5 102 b (puts [3, n, e])]) := by
 refine Ctr.intro Tryz.func74 rfl Tryz.ntmps74 (Nat.le_of_ble_eq_true rfl) fun S0 w0 => ?_
 refine T.region ?_
 refine rdx (rd_move (v := .pointer _) rfl) ?_
 refine rdx (rd_load (v := .int _ _) Tryz.one3 rfl (Has.arg 0 rfl) rfl) ?_
 refine rdx (rd_load (v := .int _ _) Tryz.one3 rfl (Has.arg 1 rfl) rfl) ?_
 refine TO.buildS (cs := [.int _ _, .int _ _, .int _ _]) Tryz.under110 Tryz.size3 Tryz.zero3 (Nat.le_of_ble_eq_true rfl) rfl (fun b1 => ?_)
 refine TO.front1 ?_
 refine TO.hand Tryz.enters64 rfl (c_numbers _ _ _ _ _ [3, n, e] (by first | rfl | simp) (by simp) (by first | omega | exact Nat.zero_le _)) rfl rfl (ReadsC (own_slc (e := eInt) [3, n, e] rfl (fun _ => rfl) (Has.own 0 rfl) (by simp)) Reads0) (fun _ hx2 => ?_)
 refine TO.nil ?_
 refine TQ.done (()) (trivial) ?_ (fun _ _ h => h.sel (js := [0]) (by decide)) (res0 Tryz.results74) _ (.inr rfl)
 rfl
theorem c_seal (key c : Bytes) (g : FuncId) (cap : List Value) (Gw : List Asn) (he : Enters Tryz.prog g) (hw : ∀ b, Ctr Tryz.prog g (.pointer (some ⟨b, 0, none⟩) :: cap).toArray Gw [bld 5 102 b []] (γ := Unit) (fun _ => True) (fun _ => .tuple #[]) (fun _ => [bld 5 102 b c])) (hc0 : c ≠ []) (hc : c.length ≤ 500000000000) (hk : key.length ≤ 100000000000) : Cv Tryz.prog 50 #[.string (str key), .func (.func g) #[] cap.toArray] (glob 0 roundC 162 :: Gw) (.string (str (sealOf key c))) := by
 refine Ctr.intro Tryz.func50 rfl Tryz.ntmps50 (Nat.le_of_ble_eq_true rfl) fun S0 w0 => ?_
 refine T.seq (T.region ?_)
 refine rdx (rd_assign (v := .string _) rfl) ?_
 refine TO.nil (TQ.then_normal (T.seq (T.region ?_)))
 refine TO.alloc Tryz.zero102 (fun b1 => ?_)
 refine TO.tobld (e := 5) ?_
 refine TO.nil (TQ.then_normal (T.seq (T.region ?_)))
 refine rdx (rd_move (v := .func _ _ _) rfl) ?_
 refine TO.hand he rfl (hw _) rfl rfl (fun X hX => Has.mem (List.mem_cons_of_mem _ hX)) (fun _ _ => ?_)
 refine TO.nil (TQ.then_normal (T.seq (T.region ?_)))
 refine rdx (rd_move (v := .string _) rfl) ?_
 refine rdx (rd_fieldAddr Tryz.field102_0 rfl) ?_
 refine TO.hand Tryz.enters66 rfl (c_String _ _ _ (hc0)) rfl rfl Reads0 (fun _ hx2 => ?_)
 refine TO.fn Tryz.enters88 (c_digest_Leaf _ (by first | assumption | (apply leafArg; assumption)) (by first | omega | assumption)) rfl (ReadsC (Has.arg 0 rfl) Reads0) ?_
 refine TO.fn Tryz.enters87 (c_digest_Node _ _ (leafOf_ne _) (by first | omega | assumption) (by rw [leafOf_len]; omega)) rfl (ReadsC (Has.arg 0 rfl) Reads0) ?_
 refine rdx (rd_assign (v := .string _) rfl) ?_
 refine TO.nil (TQ.then_normal (T.ret ?_))
 refine TQ.value ?_ (res1 Tryz.results50 (Res.tmp (v := .string _) rfl)) _ (.inl rfl)
 rfl
end Go.Proofs
end
section
set_option linter.unusedVariables false
set_option linter.unusedSimpArgs false
set_option maxRecDepth 100000
set_option maxHeartbeats 800000
namespace Go.Proofs
open Go.TL
attribute [local irreducible] Go.TL.T Go.TL.TO Go.TL.TQ
theorem c_wish_SignWish (k : Bytes) (w : Wish) (hk : k.length ≤ 1000000000) : Cv Tryz.prog 20 #[.string (str k), wishV w] [glob 0 roundC 162] (.tuple #[wishV (signW k w).1, .int .i64 (signW k w).2]) := by
 refine Ctr.intro Tryz.func20 rfl Tryz.ntmps20 (Nat.le_of_ble_eq_true rfl) fun S0 w0 => ?_
 refine T.seq (T.region ?_)
 refine TO.box (v := .agg #[.int _ _, .int _ _, .int _ _, .int _ _, .int _ _, .int _ _, .int _ _, .int _ _, .string _]) rfl (fun b1 => ?_)
 refine TO.alloc Tryz.zero30 (fun b2 => ?_)
 refine rdx (rd_assign (v := .int _ _) rfl) ?_
 refine TO.nil (TQ.then_normal (T.seq (T.seq (T.region ?_))))
 refine rdx (rd_move (v := .string _) rfl) ?_
 refine TO.fn Tryz.enters43 (c_wish_isKey _) rfl Reads0 ?_
 refine rdx (rd_not rfl) ?_
 refine rdx (rd_move (v := .bool _) rfl) ?_
 refine TO.decide (s := 9) rfl (fun h3 => ?_) (fun h3 => ?_)
 ·try simp only [nrm] at h3
  refine TO.guard_false (s := 9) (b' := true) rfl rfl nofun ?_
  refine TO.guard_false (s := 9) (b' := true) rfl rfl nofun ?_
  refine TO.guard_false (s := 9) (b' := true) rfl rfl nofun ?_
  refine rdx (rd_pick_true (v := .bool _) rfl rfl) ?_
  refine TO.nil (TQ.then_normal ?_)
  refine T.cond_true rfl ?_
  refine T.seq (T.region ?_)
  refine rdx (rd_build (cs := [.int _ _, .int _ _, .int _ _, .int _ _, .int _ _, .int _ _, .int _ _, .int _ _, .string _]) Tryz.places30 Tryz.zero30 rfl rfl) ?_
  refine TO.store0 (cells' := #[.int _ _, .int _ _, .int _ _, .int _ _, .int _ _, .int _ _, .int _ _, .int _ _, .string _]) Tryz.size30 rfl (v := .agg #[.int _ _, .int _ _, .int _ _, .int _ _, .int _ _, .int _ _, .int _ _, .int _ _, .string _]) rfl rfl rfl (Nat.le_of_ble_eq_true rfl) rfl ?_
  refine rdx (rd_assign (v := .int _ _) rfl) ?_
  refine TO.nil (TQ.then_normal (T.ret (TQ.then_ret ?_)))
  refine TQ.value ?_ (res2 Tryz.results20 (Res.cells (cs := #[.int _ _, .int _ _, .int _ _, .int _ _, .int _ _, .int _ _, .int _ _, .int _ _, .string _]) Tryz.agg30 rfl (Has.own 0 rfl) rfl rfl) (Res.tmp (v := .int _ _) rfl)) _ (.inl rfl)
  rw [signW, if_neg (by rintro ⟨e1, e2⟩; first | omega | simp_all)]; rfl
 try simp only [nrm] at h3
 refine TO.guard_true (s := 9) rfl rfl ?_
 refine rdx (rd_load_agg (cs := #[.int _ _, .int _ _, .int _ _, .int _ _, .int _ _, .int _ _, .int _ _, .int _ _, .string _]) Tryz.agg30 rfl (Has.own 1 rfl) rfl rfl) ?_
 refine TO.guard_true (s := 9) rfl rfl ?_
 refine TO.fn Tryz.enters45 (c_wish_isWish _) rfl Reads0 ?_
 refine TO.guard_true (s := 9) rfl rfl ?_
 refine rdx (rd_not rfl) ?_
 refine rdx (rd_pick_false (v := .bool _) rfl rfl) ?_
 refine TO.nil (TQ.then_normal ?_)
 refine T.cond rfl (fun h4 => ?_) (fun h4 => ?_)
 ·try simp only [nrm] at h4
  refine T.seq (T.region ?_)
  refine rdx (rd_build (cs := [.int _ _, .int _ _, .int _ _, .int _ _, .int _ _, .int _ _, .int _ _, .int _ _, .string _]) Tryz.places30 Tryz.zero30 rfl rfl) ?_
  refine TO.store0 (cells' := #[.int _ _, .int _ _, .int _ _, .int _ _, .int _ _, .int _ _, .int _ _, .int _ _, .string _]) Tryz.size30 rfl (v := .agg #[.int _ _, .int _ _, .int _ _, .int _ _, .int _ _, .int _ _, .int _ _, .int _ _, .string _]) rfl rfl rfl (Nat.le_of_ble_eq_true rfl) rfl ?_
  refine rdx (rd_assign (v := .int _ _) rfl) ?_
  refine TO.nil (TQ.then_normal (T.ret (TQ.then_ret ?_)))
  refine TQ.value ?_ (res2 Tryz.results20 (Res.cells (cs := #[.int _ _, .int _ _, .int _ _, .int _ _, .int _ _, .int _ _, .int _ _, .int _ _, .string _]) Tryz.agg30 rfl (Has.own 0 rfl) rfl rfl) (Res.tmp (v := .int _ _) rfl)) _ (.inl rfl)
  rw [signW, if_neg (by rintro ⟨e1, e2⟩; first | omega | simp_all)]; rfl
 try simp only [nrm] at h4
 refine T.skip (TQ.then_normal (T.seq (T.region ?_)))
 refine rdx (rd_move (v := .string _) rfl) ?_
 refine rdx (rd_clo (b := [_]) rfl) ?_
 refine TO.fn Tryz.enters50 (c_seal _ _ _ _ _ Tryz.enters59 (fun b => c_SignWish1 b _ w) (wishText_ne w) (Nat.le_trans (wishText_le w) (by decide)) (by omega)) rfl (ReadsC (Has.arg 0 rfl) (ReadsC (Has.own 1 rfl) Reads0)) ?_
 refine rdx (rd_fieldAddr Tryz.field30_6 rfl) ?_
 refine TO.front1 ?_
 refine TO.store0 (cells' := #[.int _ _, .int _ _, .int _ _, .int _ _, .int _ _, .int _ _, .int _ _, .int _ _, .string _]) Tryz.size9 rfl (v := .string _) rfl rfl rfl (Nat.le_of_ble_eq_true rfl) rfl ?_
 refine TO.nil (TQ.then_normal (T.seq (T.region ?_)))
 refine rdx (rd_load_agg (cs := #[.int _ _, .int _ _, .int _ _, .int _ _, .int _ _, .int _ _, .int _ _, .int _ _, .string _]) Tryz.agg30 rfl (Has.own 0 rfl) rfl rfl) ?_
 refine TO.front1 ?_
 refine TO.store0 (cells' := #[.int _ _, .int _ _, .int _ _, .int _ _, .int _ _, .int _ _, .int _ _, .int _ _, .string _]) Tryz.size30 rfl (v := .agg #[.int _ _, .int _ _, .int _ _, .int _ _, .int _ _, .int _ _, .int _ _, .int _ _, .string _]) rfl rfl rfl (Nat.le_of_ble_eq_true rfl) rfl ?_
 refine rdx (rd_assign (v := .int _ _) rfl) ?_
 refine TO.nil (TQ.then_normal (T.ret ?_))
 refine TQ.value ?_ (res2 Tryz.results20 (Res.cells (cs := #[.int _ _, .int _ _, .int _ _, .int _ _, .int _ _, .int _ _, .int _ _, .int _ _, .string _]) Tryz.agg30 rfl (Has.own 0 rfl) rfl rfl) (Res.tmp (v := .int _ _) rfl)) _ (.inl rfl)
 rw [signW, if_pos ⟨by omega, by simp_all⟩]; rfl
theorem c_wish_SignProxy (k : Bytes) (w : Proxy) (hk : k.length ≤ 1000000000) : Cv Tryz.prog 22 #[.string (str k), proxyV w] [glob 0 roundC 162] (.tuple #[proxyV (signP k w).1, .int .i64 (signP k w).2]) := by
 refine Ctr.intro Tryz.func22 rfl Tryz.ntmps22 (Nat.le_of_ble_eq_true rfl) fun S0 w0 => ?_
 refine T.seq (T.region ?_)
 refine TO.box (v := .agg #[.int _ _, .int _ _, .int _ _, .int _ _, .int _ _, .int _ _, .string _]) rfl (fun b1 => ?_)
 refine TO.alloc Tryz.zero40 (fun b2 => ?_)
 refine rdx (rd_assign (v := .int _ _) rfl) ?_
 refine TO.nil (TQ.then_normal (T.seq (T.seq (T.region ?_))))
 refine rdx (rd_move (v := .string _) rfl) ?_
 refine TO.fn Tryz.enters43 (c_wish_isKey _) rfl Reads0 ?_
 refine rdx (rd_not rfl) ?_
 refine rdx (rd_move (v := .bool _) rfl) ?_
 refine TO.decide (s := 9) rfl (fun h3 => ?_) (fun h3 => ?_)
 ·try simp only [nrm] at h3
  refine TO.guard_false (s := 9) (b' := true) rfl rfl nofun ?_
  refine TO.guard_false (s := 9) (b' := true) rfl rfl nofun ?_
  refine TO.guard_false (s := 9) (b' := true) rfl rfl nofun ?_
  refine rdx (rd_pick_true (v := .bool _) rfl rfl) ?_
  refine TO.nil (TQ.then_normal ?_)
  refine T.cond_true rfl ?_
  refine T.seq (T.region ?_)
  refine rdx (rd_build (cs := [.int _ _, .int _ _, .int _ _, .int _ _, .int _ _, .int _ _, .string _]) Tryz.places40 Tryz.zero40 rfl rfl) ?_
  refine TO.store0 (cells' := #[.int _ _, .int _ _, .int _ _, .int _ _, .int _ _, .int _ _, .string _]) Tryz.size40 rfl (v := .agg #[.int _ _, .int _ _, .int _ _, .int _ _, .int _ _, .int _ _, .string _]) rfl rfl rfl (Nat.le_of_ble_eq_true rfl) rfl ?_
  refine rdx (rd_assign (v := .int _ _) rfl) ?_
  refine TO.nil (TQ.then_normal (T.ret (TQ.then_ret ?_)))
  refine TQ.value ?_ (res2 Tryz.results22 (Res.cells (cs := #[.int _ _, .int _ _, .int _ _, .int _ _, .int _ _, .int _ _, .string _]) Tryz.agg40 rfl (Has.own 0 rfl) rfl rfl) (Res.tmp (v := .int _ _) rfl)) _ (.inl rfl)
  rw [signP, if_neg (by rintro ⟨e1, e2⟩; first | omega | simp_all)]; rfl
 try simp only [nrm] at h3
 refine TO.guard_true (s := 9) rfl rfl ?_
 refine rdx (rd_load_agg (cs := #[.int _ _, .int _ _, .int _ _, .int _ _, .int _ _, .int _ _, .string _]) Tryz.agg40 rfl (Has.own 1 rfl) rfl rfl) ?_
 refine TO.guard_true (s := 9) rfl rfl ?_
 refine TO.fn Tryz.enters60 (c_wish_isProxy _) rfl Reads0 ?_
 refine TO.guard_true (s := 9) rfl rfl ?_
 refine rdx (rd_not rfl) ?_
 refine rdx (rd_pick_false (v := .bool _) rfl rfl) ?_
 refine TO.nil (TQ.then_normal ?_)
 refine T.cond rfl (fun h4 => ?_) (fun h4 => ?_)
 ·try simp only [nrm] at h4
  refine T.seq (T.region ?_)
  refine rdx (rd_build (cs := [.int _ _, .int _ _, .int _ _, .int _ _, .int _ _, .int _ _, .string _]) Tryz.places40 Tryz.zero40 rfl rfl) ?_
  refine TO.store0 (cells' := #[.int _ _, .int _ _, .int _ _, .int _ _, .int _ _, .int _ _, .string _]) Tryz.size40 rfl (v := .agg #[.int _ _, .int _ _, .int _ _, .int _ _, .int _ _, .int _ _, .string _]) rfl rfl rfl (Nat.le_of_ble_eq_true rfl) rfl ?_
  refine rdx (rd_assign (v := .int _ _) rfl) ?_
  refine TO.nil (TQ.then_normal (T.ret (TQ.then_ret ?_)))
  refine TQ.value ?_ (res2 Tryz.results22 (Res.cells (cs := #[.int _ _, .int _ _, .int _ _, .int _ _, .int _ _, .int _ _, .string _]) Tryz.agg40 rfl (Has.own 0 rfl) rfl rfl) (Res.tmp (v := .int _ _) rfl)) _ (.inl rfl)
  rw [signP, if_neg (by rintro ⟨e1, e2⟩; first | omega | simp_all)]; rfl
 try simp only [nrm] at h4
 refine T.skip (TQ.then_normal (T.seq (T.region ?_)))
 refine rdx (rd_move (v := .string _) rfl) ?_
 refine rdx (rd_clo (b := [_]) rfl) ?_
 refine TO.fn Tryz.enters50 (c_seal _ _ _ _ _ Tryz.enters61 (fun b => c_SignProxy1 b _ w) (proxyText_ne w) (Nat.le_trans (proxyText_le w) (by decide)) (by omega)) rfl (ReadsC (Has.arg 0 rfl) (ReadsC (Has.own 1 rfl) Reads0)) ?_
 refine rdx (rd_fieldAddr Tryz.field40_4 rfl) ?_
 refine TO.front1 ?_
 refine TO.store0 (cells' := #[.int _ _, .int _ _, .int _ _, .int _ _, .int _ _, .int _ _, .string _]) Tryz.size9 rfl (v := .string _) rfl rfl rfl (Nat.le_of_ble_eq_true rfl) rfl ?_
 refine TO.nil (TQ.then_normal (T.seq (T.region ?_)))
 refine rdx (rd_load_agg (cs := #[.int _ _, .int _ _, .int _ _, .int _ _, .int _ _, .int _ _, .string _]) Tryz.agg40 rfl (Has.own 0 rfl) rfl rfl) ?_
 refine TO.front1 ?_
 refine TO.store0 (cells' := #[.int _ _, .int _ _, .int _ _, .int _ _, .int _ _, .int _ _, .string _]) Tryz.size40 rfl (v := .agg #[.int _ _, .int _ _, .int _ _, .int _ _, .int _ _, .int _ _, .string _]) rfl rfl rfl (Nat.le_of_ble_eq_true rfl) rfl ?_
 refine rdx (rd_assign (v := .int _ _) rfl) ?_
 refine TO.nil (TQ.then_normal (T.ret ?_))
 refine TQ.value ?_ (res2 Tryz.results22 (Res.cells (cs := #[.int _ _, .int _ _, .int _ _, .int _ _, .int _ _, .int _ _, .string _]) Tryz.agg40 rfl (Has.own 0 rfl) rfl rfl) (Res.tmp (v := .int _ _) rfl)) _ (.inl rfl)
 rw [signP, if_pos ⟨by omega, by simp_all⟩]; rfl
end Go.Proofs
end
section
set_option linter.unusedVariables false
set_option linter.unusedSimpArgs false
set_option maxRecDepth 100000
set_option maxHeartbeats 800000
namespace Go.Proofs
open Go.TL
attribute [local irreducible] Go.TL.T Go.TL.TO Go.TL.TQ
theorem c_law15_wished (t : Int) : Cv Tryz.prog 37 #[.int .i64 t] [glob 0 roundC 162] (wishV (sw t)) := by
 refine Ctr.intro Tryz.func37 rfl Tryz.ntmps37 (Nat.le_of_ble_eq_true rfl) fun S0 w0 => ?_
 refine T.seq (T.region ?_)
 refine TO.alloc Tryz.zero30 (fun b1 => ?_)
 refine TO.nil (TQ.then_normal (T.seq (T.region ?_)))
 refine TO.fn Tryz.enters19 (c_ref15_Key _) rfl Reads0 ?_
 refine rdx (rd_build (cs := [.int _ _, .int _ _]) Tryz.places27 Tryz.zero27 rfl rfl) ?_
 refine rdx (rd_move (v := .int _ _) rfl) ?_
 refine rdx (rd_build (cs := [.int _ _, .int _ _]) Tryz.places28 Tryz.zero28 rfl rfl) ?_
 refine rdx (rd_build (cs := [.int _ _, .int _ _, .int _ _, .int _ _, .int _ _, .int _ _, .int _ _, .int _ _, .string _]) Tryz.places30 Tryz.zero30 rfl rfl) ?_
 refine TO.fn Tryz.enters20 (c_wish_SignWish (keyB 2) (⟨2, 1, 1100, 1200, 3, 7, 150, t, []⟩) (by first | (rw [keyB_len]; omega) | omega | assumption)) rfl (ReadsC (Has.arg 0 rfl) Reads0) ?_
 refine rdx (rd_move (v := .tuple _) rfl) ?_
 refine rdx (rd_extract (v := .agg _) (vs := _) rfl rfl) ?_
 refine rdx (rd_extract (v := .int _ _) (vs := _) rfl rfl) ?_
 refine TO.alloc Tryz.zero30 (fun b2 => ?_)
 refine TO.store0 (cells' := #[.int _ _, .int _ _, .int _ _, .int _ _, .int _ _, .int _ _, .int _ _, .int _ _, .string _]) Tryz.size30 rfl (v := .agg #[.int _ _, .int _ _, .int _ _, .int _ _, .int _ _, .int _ _, .int _ _, .int _ _, .string _]) rfl rfl rfl (Nat.le_of_ble_eq_true rfl) rfl ?_
 refine rdx (rd_assign (v := .int _ _) rfl) ?_
 refine TO.nil (TQ.then_normal (T.seq (T.region ?_)))
 refine rdx (rd_load_agg (cs := #[.int _ _, .int _ _, .int _ _, .int _ _, .int _ _, .int _ _, .int _ _, .int _ _, .string _]) Tryz.agg30 rfl (Has.own 0 rfl) rfl rfl) ?_
 refine TO.front1 ?_
 refine TO.store0 (cells' := #[.int _ _, .int _ _, .int _ _, .int _ _, .int _ _, .int _ _, .int _ _, .int _ _, .string _]) Tryz.size30 rfl (v := .agg #[.int _ _, .int _ _, .int _ _, .int _ _, .int _ _, .int _ _, .int _ _, .int _ _, .string _]) rfl rfl rfl (Nat.le_of_ble_eq_true rfl) rfl ?_
 refine TO.nil (TQ.then_normal (T.ret ?_))
 refine TQ.value ?_ (res1 Tryz.results37 (Res.cells (cs := #[.int _ _, .int _ _, .int _ _, .int _ _, .int _ _, .int _ _, .int _ _, .int _ _, .string _]) Tryz.agg30 rfl (Has.own 0 rfl) rfl rfl)) _ (.inl rfl)
 rfl
theorem c_law15_granted (t : Int) : Cv Tryz.prog 38 #[.int .i64 t] [glob 0 roundC 162] (proxyV (sp t)) := by
 refine Ctr.intro Tryz.func38 rfl Tryz.ntmps38 (Nat.le_of_ble_eq_true rfl) fun S0 w0 => ?_
 refine T.seq (T.region ?_)
 refine TO.alloc Tryz.zero40 (fun b1 => ?_)
 refine TO.nil (TQ.then_normal (T.seq (T.region ?_)))
 refine TO.fn Tryz.enters19 (c_ref15_Key _) rfl Reads0 ?_
 refine rdx (rd_build (cs := [.int _ _, .int _ _]) Tryz.places27 Tryz.zero27 rfl rfl) ?_
 refine rdx (rd_move (v := .int _ _) rfl) ?_
 refine rdx (rd_build (cs := [.int _ _, .int _ _]) Tryz.places28 Tryz.zero28 rfl rfl) ?_
 refine rdx (rd_build (cs := [.int _ _, .int _ _, .int _ _, .int _ _, .int _ _, .int _ _, .string _]) Tryz.places40 Tryz.zero40 rfl rfl) ?_
 refine TO.fn Tryz.enters22 (c_wish_SignProxy (keyB 1) (⟨1, 2, 1000, 2000, 100, t, []⟩) (by first | (rw [keyB_len]; omega) | omega | assumption)) rfl (ReadsC (Has.arg 0 rfl) Reads0) ?_
 refine rdx (rd_move (v := .tuple _) rfl) ?_
 refine rdx (rd_extract (v := .agg _) (vs := _) rfl rfl) ?_
 refine rdx (rd_extract (v := .int _ _) (vs := _) rfl rfl) ?_
 refine TO.alloc Tryz.zero40 (fun b2 => ?_)
 refine TO.store0 (cells' := #[.int _ _, .int _ _, .int _ _, .int _ _, .int _ _, .int _ _, .string _]) Tryz.size40 rfl (v := .agg #[.int _ _, .int _ _, .int _ _, .int _ _, .int _ _, .int _ _, .string _]) rfl rfl rfl (Nat.le_of_ble_eq_true rfl) rfl ?_
 refine rdx (rd_assign (v := .int _ _) rfl) ?_
 refine TO.nil (TQ.then_normal (T.seq (T.region ?_)))
 refine rdx (rd_load_agg (cs := #[.int _ _, .int _ _, .int _ _, .int _ _, .int _ _, .int _ _, .string _]) Tryz.agg40 rfl (Has.own 0 rfl) rfl rfl) ?_
 refine TO.front1 ?_
 refine TO.store0 (cells' := #[.int _ _, .int _ _, .int _ _, .int _ _, .int _ _, .int _ _, .string _]) Tryz.size40 rfl (v := .agg #[.int _ _, .int _ _, .int _ _, .int _ _, .int _ _, .int _ _, .string _]) rfl rfl rfl (Nat.le_of_ble_eq_true rfl) rfl ?_
 refine TO.nil (TQ.then_normal (T.ret ?_))
 refine TQ.value ?_ (res1 Tryz.results38 (Res.cells (cs := #[.int _ _, .int _ _, .int _ _, .int _ _, .int _ _, .int _ _, .string _]) Tryz.agg40 rfl (Has.own 0 rfl) rfl rfl)) _ (.inl rfl)
 rfl
end Go.Proofs
end
section
set_option linter.unusedVariables false
set_option linter.unusedSimpArgs false
set_option maxRecDepth 100000
set_option maxHeartbeats 800000
namespace Go.Proofs
open Go.TL
attribute [local irreducible] Go.TL.T Go.TL.TO Go.TL.TQ
theorem Tryz.enters74 : Enters Tryz.prog 74 := fun args w => by kernel_rfl
theorem Tryz.enters75 : Enters Tryz.prog 75 := fun args w => by kernel_rfl
end Go.Proofs
end
section
set_option linter.unusedVariables false
set_option linter.unusedSimpArgs false
set_option maxRecDepth 100000
set_option maxHeartbeats 800000
namespace Go.Proofs
open Go.TL
attribute [local irreducible] Go.TL.T Go.TL.TO Go.TL.TQ
theorem Tryz.enters42 : Enters Tryz.prog 42 := fun args w => by kernel_rfl
theorem Tryz.enters44 : Enters Tryz.prog 44 := fun args w => by kernel_rfl
theorem Tryz.enters48 : Enters Tryz.prog 48 := fun args w => by kernel_rfl
theorem Tryz.enters49 : Enters Tryz.prog 49 := fun args w => by kernel_rfl
theorem Tryz.enters51 : Enters Tryz.prog 51 := fun args w => by kernel_rfl
theorem Tryz.enters53 : Enters Tryz.prog 53 := fun args w => by kernel_rfl
theorem Tryz.enters85 : Enters Tryz.prog 85 := fun args w => by kernel_rfl
end Go.Proofs
end
section
set_option linter.unusedVariables false
set_option linter.unusedSimpArgs false
set_option maxRecDepth 100000
set_option maxHeartbeats 800000
namespace Go.Proofs
open Go.TL
attribute [local irreducible] Go.TL.T Go.TL.TO Go.TL.TQ
theorem Tryz.enters86 : Enters Tryz.prog 86 := fun args w => by kernel_rfl
end Go.Proofs
end
section
set_option linter.unusedVariables false
set_option linter.unusedSimpArgs false
set_option maxRecDepth 100000
set_option maxHeartbeats 800000
namespace Go.Proofs
open Go.TL
attribute [local irreducible] Go.TL.T Go.TL.TO Go.TL.TQ
theorem c_wish_scope (w : Wish) (A : Option Addr) (cap n : Nat) (l : List Proxy) (hn : n = l.length) (hl : l.length ≤ 4) : Cv Tryz.prog 49 #[wishV w, .slice A n cap] [slc proxyL 7 A l] (.tuple #[.int .i64 (scopeR w l).1, .bool (scopeR w l).2]) := by
 subst hn
 refine Ctr.intro Tryz.func49 rfl Tryz.ntmps49 (Nat.le_of_ble_eq_true rfl) fun S0 w0 => ?_
 refine T.seq (T.region ?_)
 refine TO.box (v := .agg #[.int _ _, .int _ _, .int _ _, .int _ _, .int _ _, .int _ _, .int _ _, .int _ _, .string _]) rfl (fun b1 => ?_)
 refine rdx (rd_assign (v := .int _ _) rfl) ?_
 refine rdx (rd_assign (v := .bool _) rfl) ?_
 refine TO.nil (TQ.then_normal (T.seq (T.seq (T.region ?_))))
 refine rdx (rd_move (v := .slice _ _ _) rfl) ?_
 refine rdx (rd_lensl Tryz.under31 rfl) ?_
 refine rdx (rd_move (v := .int _ _) rfl) ?_
 refine TO.nil (TQ.then_normal (T.block ?_))
 refine T.loop1 [1, 2, 8, 9] (fun (k : Nat) => [(10, .int .i64 (k : Nat))]) (fun (k : Nat) => []) (fun (k : Nat) => k ≤ l.length ∧ okTo (scopeP l) k) (fun (k : Nat) => l.length - k) (0) (⟨Nat.zero_le _, okTo.zero _⟩) (And.intro (rfl) (trivial)) (fun _ _ h => h) fun k g0 hx0 => ?_
 obtain ⟨hk, hk0⟩ := hx0
 refine T.seq (T.region ?_)
 refine rdx (rd_lss rfl rfl) ?_
 refine TO.nil (TQ.then_normal (T.seq ?_))
 refine T.cond_ft rfl (fun h2 => ?_) (fun h2 => ?_)
 ·try simp only [nrm] at h2
  refine T.exit (TQ.then_exit (TQ.then_exit (TQ.block_out (TQ.then_normal (T.seq ?_)))))
  refine T.drawq Tryz.mixes 18 [(32, 0), (33, 1), (34, 2), (35, 3), (36, 4), (37, 5), (38, 6), (39, 7), (40, 8), (41, 9), (42, 10), (43, 11), (44, 12), (45, 13), (46, 14), (47, 15), (48, 16), (4, 17)] [0, 1, 3, 7, 15, 31, 15, 79, 15, 15, 527, 1551, 3855, 7951, 16383, 32767, 65535, 32767, 262143] (by kernel_rfl) ?_
  refine DQ.rd rfl rfl (fun _ => rd_move (v := .slice _ _ _) rfl) ?_
  refine DQ.rd rfl rfl (fun _ => rd_lensl Tryz.under31 rfl) ?_
  refine DQ.rd rfl rfl (fun _ => rd_gtr rfl rfl) ?_
  refine DQ.rd rfl rfl (fun _ => rd_move (v := .bool _) rfl) ?_
  refine DQ.decide 3 rfl (fun h6 => ?_) (fun h6 => ?_)
  ·try simp only [nrm] at h6
   refine DQ.rdg rfl rfl (fun _ => rfl) (fun _ => rd_fieldAddr Tryz.field30_2 rfl) ?_
   refine DQ.rdg rfl rfl (fun _ => rfl) (fun _ => rd_load_agg (cs := #[.int _ _, .int _ _]) Tryz.agg27 rfl (Has.own 0 rfl) rfl rfl) ?_
   refine DQ.rdg rfl rfl (fun _ => rfl) (fun _ => rd_fieldAddr Tryz.field30_5 rfl) ?_
   refine DQ.rdg rfl rfl (fun _ => rfl) (fun _ => rd_load_agg (cs := #[.int _ _, .int _ _]) Tryz.agg28 rfl (Has.own 0 rfl) rfl rfl) ?_
   refine DQ.rdg rfl rfl (fun _ => rfl) (fun _ => rd_move (v := .slice _ _ _) rfl) ?_
   refine DQ.rdg rfl rfl (fun _ => rfl) (fun _ => rd_move (v := .slice _ _ _) rfl) ?_
   refine DQ.rdg rfl rfl (fun _ => rfl) (fun _ => rd_lensl Tryz.under31 rfl) ?_
   refine DQ.rdg rfl rfl (fun _ => rfl) (fun _ => rd_sub rfl rfl (w64 (by omega) (by omega))) ?_
   refine DQ.rdg rfl rfl (fun _ => rfl) (fun _ => rd_ix (k := (l.length - 1)) Tryz.under31 Tryz.size40 rfl rfl (Has.arg 0 rfl) (by omega) (by omega) (by omega)) ?_
   refine DQ.rdg rfl rfl (fun _ => rfl) (fun _ => rd_ela (cs := [.int _ _, .int _ _, .int _ _, .int _ _, .int _ _, .int _ _, .string _]) (l.length - 1) 0 Tryz.agg40 rfl (Has.arg 0 rfl) rfl (by omega) (Nat.le_of_ble_eq_true rfl) rfl rfl rfl) ?_
   refine DQ.fng rfl rfl (fun _ => rfl) Tryz.enters86 (c_wish_isIn _ _ _ _ _) (fun _ => rfl) Reads0 ?_
   refine DQ.rdg rfl rfl (fun _ => rfl) (fun _ => rd_not rfl) ?_
   refine DQ.rd rfl rfl (fun _ => rd_pick_true (v := .bool _) rfl rfl) ?_
   refine DQ.rd rfl rfl (fun _ => rd_assign (v := .int _ _) rfl) ?_
   refine DQ.done rfl ?_
   refine rdx (rd_assign (v := .bool _) rfl) ?_
   refine TO.nil (TQ.then_normal (T.ret ?_))
   refine TQ.value ?_ (res2 Tryz.results49 (Res.tmp (v := .int _ _) rfl) (Res.tmp (v := .bool _) rfl)) _ (.inl rfl)
   rw [scopeR_none (fun i hi => hk0 i (by omega))]; congr 2; rw [lastScope, decide_eq_true (by omega), getD_get _ (by omega)]; simp_all
  try simp only [nrm] at h6
  refine DQ.off (b' := false) rfl rfl (fun _ => rfl) nofun ?_
  refine DQ.off (b' := false) rfl rfl (fun _ => rfl) nofun ?_
  refine DQ.off (b' := false) rfl rfl (fun _ => rfl) nofun ?_
  refine DQ.off (b' := false) rfl rfl (fun _ => rfl) nofun ?_
  refine DQ.off (b' := false) rfl rfl (fun _ => rfl) nofun ?_
  refine DQ.off (b' := false) rfl rfl (fun _ => rfl) nofun ?_
  refine DQ.off (b' := false) rfl rfl (fun _ => rfl) nofun ?_
  refine DQ.off (b' := false) rfl rfl (fun _ => rfl) nofun ?_
  refine DQ.off (b' := false) rfl rfl (fun _ => rfl) nofun ?_
  refine DQ.off (b' := false) rfl rfl (fun _ => rfl) nofun ?_
  refine DQ.off (b' := false) rfl rfl (fun _ => rfl) nofun ?_
  refine DQ.off (b' := false) rfl rfl (fun _ => rfl) nofun ?_
  refine DQ.rd rfl rfl (fun _ => rd_pick_false (v := .bool _) rfl rfl) ?_
  refine DQ.rd rfl rfl (fun _ => rd_assign (v := .int _ _) rfl) ?_
  refine DQ.done rfl ?_
  refine rdx (rd_assign (v := .bool _) rfl) ?_
  refine TO.nil (TQ.then_normal (T.ret ?_))
  refine TQ.value ?_ (res2 Tryz.results49 (Res.tmp (v := .int _ _) rfl) (Res.tmp (v := .bool _) rfl)) _ (.inl rfl)
  rw [scopeR_none (fun i hi => hk0 i (by omega))]; congr 2; rw [lastScope, decide_eq_false (by omega)]; rfl
 try simp only [nrm] at h2
 refine T.skip (TQ.then_normal (T.seq (T.block (T.seq (T.region ?_)))))
 refine rdx (rd_move (v := .int _ _) rfl) ?_
 refine rdx (rd_ix Tryz.under31 Tryz.size40 rfl rfl (Has.arg 0 rfl) rfl (by omega) (by omega)) ?_
 refine rdx (rd_ela (cs := [.int _ _, .int _ _, .int _ _, .int _ _, .int _ _, .int _ _, .string _]) _ 0 Tryz.agg40 rfl (Has.arg 0 rfl) rfl (by omega) (Nat.le_of_ble_eq_true rfl) rfl rfl rfl) ?_
 refine TO.alloc Tryz.zero40 (fun b3 => ?_)
 refine rdx (rd_assign (v := .int _ _) rfl) ?_
 refine TO.store0 (cells' := #[.int _ _, .int _ _, .int _ _, .int _ _, .int _ _, .int _ _, .string _]) Tryz.size40 rfl (v := .agg #[.int _ _, .int _ _, .int _ _, .int _ _, .int _ _, .int _ _, .string _]) rfl rfl rfl (Nat.le_of_ble_eq_true rfl) rfl ?_
 refine TO.nil (TQ.then_normal (T.seq ?_))
 refine T.drawq Tryz.mixes 12 [(15, 0), (16, 1), (17, 2), (18, 3), (19, 4), (20, 5), (21, 6), (22, 7), (23, 8), (24, 9), (25, 10), (26, 11)] [0, 1, 3, 7, 15, 7, 39, 7, 7, 263, 903, 1927, 4095, 8191, 16383] (by kernel_rfl) ?_
 refine DQ.rd rfl rfl (fun _ => rd_move (v := .int _ _) rfl) ?_
 refine DQ.rd rfl rfl (fun _ => rd_gtr rfl rfl) ?_
 refine DQ.rd rfl rfl (fun _ => rd_move (v := .bool _) rfl) ?_
 refine DQ.decide_ft 2 rfl (fun h4 => ?_) (fun h4 => ?_)
 ·try simp only [nrm] at h4
  refine DQ.off (b' := false) rfl rfl (fun _ => rfl) nofun ?_
  refine DQ.off (b' := false) rfl rfl (fun _ => rfl) nofun ?_
  refine DQ.off (b' := false) rfl rfl (fun _ => rfl) nofun ?_
  refine DQ.off (b' := false) rfl rfl (fun _ => rfl) nofun ?_
  refine DQ.off (b' := false) rfl rfl (fun _ => rfl) nofun ?_
  refine DQ.off (b' := false) rfl rfl (fun _ => rfl) nofun ?_
  refine DQ.off (b' := false) rfl rfl (fun _ => rfl) nofun ?_
  refine DQ.off (b' := false) rfl rfl (fun _ => rfl) nofun ?_
  refine DQ.off (b' := false) rfl rfl (fun _ => rfl) nofun ?_
  refine DQ.done rfl ?_
  refine TO.guard_false (s := 17) (b' := false) rfl rfl nofun ?_
  refine TO.guard_false (s := 17) (b' := false) rfl rfl nofun ?_
  refine rdx (rd_pick_false (v := .bool _) rfl rfl) ?_
  refine TO.nil (TQ.then_normal ?_)
  refine T.cond_false rfl ?_
  refine T.skip (TQ.block_normal (TQ.then_normal (T.region ?_)))
  refine rdx (rd_add rfl rfl (w64 (by omega) (by omega))) ?_
  refine rdx (rd_move (v := .int _ _) rfl) ?_
  refine TO.nil ?_
  refine TQ.againk (k + 1) ?_ ?_ (And.intro (rfl) (trivial)) (And.intro (rfl) (And.intro (rfl) (And.intro (rfl) (And.intro (rfl) (trivial))))) (fun _ _ h => h.sel (js := [1]) (by decide))
  ·exact ⟨by first | omega | (dsimp only; omega), hk0.next (by rw [scopeP]; first | (rw [decide_eq_false (by omega)]; rfl) | (rw [decide_eq_true (by omega), getD_get _ (by omega), getD_get _ (by omega)]; simp_all))⟩
  ·first | omega | (dsimp only; omega)
 try simp only [nrm] at h4
 refine DQ.rdg rfl rfl (fun _ => rfl) (fun _ => rd_fieldAddr Tryz.field40_2 rfl) ?_
 refine DQ.rdg rfl rfl (fun _ => rfl) (fun _ => rd_load_agg (cs := #[.int _ _, .int _ _]) Tryz.agg27 rfl (Has.own 0 rfl) rfl rfl) ?_
 refine DQ.rdg rfl rfl (fun _ => rfl) (fun _ => rd_fieldAddr Tryz.field40_3 rfl) ?_
 refine DQ.rdg rfl rfl (fun _ => rfl) (fun _ => rd_load_agg (cs := #[.int _ _, .int _ _]) Tryz.agg28 rfl (Has.own 0 rfl) rfl rfl) ?_
 refine DQ.rdg rfl rfl (fun _ => rfl) (fun _ => rd_move (v := .slice _ _ _) rfl) ?_
 refine DQ.rdg rfl rfl (fun _ => rfl) (fun _ => rd_move (v := .int _ _) rfl) ?_
 refine DQ.rdg rfl rfl (fun _ => rfl) (fun _ => rd_sub rfl rfl (w64 (by omega) (by omega))) ?_
 refine DQ.rdg rfl rfl (fun _ => rfl) (fun _ => rd_ix (k := (k - 1)) Tryz.under31 Tryz.size40 rfl rfl (Has.arg 0 rfl) (by omega) (by omega) (by omega)) ?_
 refine DQ.rdg rfl rfl (fun _ => rfl) (fun _ => rd_ela (cs := [.int _ _, .int _ _, .int _ _, .int _ _, .int _ _, .int _ _, .string _]) (k - 1) 0 Tryz.agg40 rfl (Has.arg 0 rfl) rfl (by omega) (Nat.le_of_ble_eq_true rfl) rfl rfl rfl) ?_
 refine DQ.done rfl ?_
 refine TO.guard_true (s := 17) rfl rfl ?_
 refine TO.fn Tryz.enters86 (c_wish_isIn _ _ _ _ _) rfl Reads0 ?_
 refine TO.guard_true (s := 17) rfl rfl ?_
 refine rdx (rd_not rfl) ?_
 refine rdx (rd_pick_true (v := .bool _) rfl rfl) ?_
 refine TO.nil (TQ.then_normal ?_)
 refine T.cond_ft rfl (fun h5 => ?_) (fun h5 => ?_)
 ·try simp only [nrm] at h5
  refine T.skip (TQ.block_normal (TQ.then_normal (T.region ?_)))
  refine rdx (rd_add rfl rfl (w64 (by omega) (by omega))) ?_
  refine rdx (rd_move (v := .int _ _) rfl) ?_
  refine TO.nil ?_
  refine TQ.againk (k + 1) ?_ ?_ (And.intro (rfl) (trivial)) (And.intro (rfl) (And.intro (rfl) (And.intro (rfl) (And.intro (rfl) (trivial))))) (fun _ _ h => h.sel (js := [1]) (by decide))
  ·exact ⟨by first | omega | (dsimp only; omega), hk0.next (by rw [scopeP]; first | (rw [decide_eq_false (by omega)]; rfl) | (rw [decide_eq_true (by omega), getD_get _ (by omega), getD_get _ (by omega)]; simp_all))⟩
  ·first | omega | (dsimp only; omega)
 try simp only [nrm] at h5
 refine T.seq (T.region ?_)
 refine rdx (rd_move (v := .int _ _) rfl) ?_
 refine rdx (rd_assign (v := .int _ _) rfl) ?_
 refine rdx (rd_assign (v := .bool _) rfl) ?_
 refine TO.nil (TQ.then_normal (T.ret (TQ.block_ret (TQ.then_ret (TQ.then_ret (TQ.block_ret (TQ.then_ret ?_)))))))
 refine TQ.value ?_ (res2 Tryz.results49 (Res.tmp (v := .int _ _) rfl) (Res.tmp (v := .bool _) rfl)) _ (.inl rfl)
 rw [scopeR_some hk0 (by rw [scopeP, decide_eq_true (by omega), getD_get _ (by omega), getD_get _ (by omega)]; simp_all) (by omega)]
theorem c_persons (h : Int) (A : Option Addr) (n cap : Nat) : Ctr Tryz.prog 48 #[.int .i64 h, .slice A n cap] [] [] (γ := Nat × Nat) (fun x => True) (fun x => .func (.func 85) #[] #[.pointer (some ⟨x.1, 0, none⟩), .pointer (some ⟨x.2, 0, none⟩)]) (fun x => [own x.1 #[.int .i64 h] 3, own x.2 #[.slice A n cap] 31]) := by
 refine Ctr.intro Tryz.func48 rfl Tryz.ntmps48 (Nat.le_of_ble_eq_true rfl) fun S0 w0 => ?_
 refine T.seq (T.region ?_)
 refine TO.box (v := .int _ _) rfl (fun b1 => ?_)
 refine TO.box (v := .slice _ _ _) rfl (fun b2 => ?_)
 refine rdx (rd_assign (v := .nilFunc) rfl) ?_
 refine TO.nil (TQ.then_normal (T.seq (T.region ?_)))
 refine rdx (rd_clo (b := [_, _]) rfl) ?_
 refine rdx (rd_assign (v := .func _ _ _) rfl) ?_
 refine TO.nil (TQ.then_normal (T.ret ?_))
 refine TQ.done ((b1, b2)) (trivial) ?_ (fun _ _ h => h.sel (js := [1, 0]) (by decide)) (res1 Tryz.results48 (Res.tmp (v := .func _ _ _) rfl)) _ (.inl rfl)
 rfl
theorem c_persons1 (b1 b2 : Nat) (h : Int) (A : Option Addr) (cap : Nat) (l : List Proxy) (hl : l.length ≤ 1000) : ICtr Tryz.prog 85 [.pointer (some ⟨b1, 0, none⟩), .pointer (some ⟨b2, 0, none⟩)] [own b1 #[.int .i64 h] 3, own b2 #[.slice A l.length cap] 31, slc proxyL 7 A l] [] (l.length + 1) (perEl h l) := by
 intro lp G J Js hY
 refine Ctr.intro Tryz.func85 rfl Tryz.ntmps85 (Nat.le_of_ble_eq_true rfl) fun S0 w0 => ?_
 refine T.seq (T.region ?_)
 refine rdx (rd_load (v := .int _ _) Tryz.one3 rfl (Has.arg 0 rfl) rfl) ?_
 refine rdx (rd_assign (v := .int _ _) rfl) ?_
 refine TO.nil (TQ.then_normal (T.seq (T.seq (T.region ?_))))
 refine rdx (rd_load (v := .slice _ _ _) Tryz.one31 rfl (Has.arg 1 rfl) rfl) ?_
 refine rdx (rd_lensl Tryz.under31 rfl) ?_
 refine rdx (rd_move (v := .int _ _) rfl) ?_
 refine TO.nil (TQ.then_normal (T.block ?_))
 refine T.loop1 [0, 8, 9] (fun (k : Nat) => [(4, .int .i64 (whoAt h l k)), (10, .int .i64 (k : Nat))]) (fun (k : Nat) => [J k]) (fun (k : Nat) => k ≤ l.length) (fun (k : Nat) => l.length - k) (0) (Nat.zero_le _) (And.intro (rfl) (And.intro (rfl) (trivial))) (fun _ _ h => h) fun k g0 hx0 => ?_
 refine T.seq (T.region ?_)
 refine rdx (rd_lss rfl rfl) ?_
 refine TO.nil (TQ.then_normal (T.seq ?_))
 refine T.cond_ft rfl (fun h1 => ?_) (fun h1 => ?_)
 ·try simp only [nrm] at h1
  refine T.exit (TQ.then_exit (TQ.then_exit (TQ.block_out (TQ.then_normal (T.region ?_)))))
  refine rdx (rd_move (v := .func _ _ _) rfl) ?_
  refine rdx (rd_move (v := .int _ _) rfl) ?_
  refine TO.yield2 rfl (hY k (by omega)) (perEl_end (by omega)).symm (fun X hX => Has.mem (List.mem_append_right _ hX)) ?_ ?_
  ·refine TO.nil ?_
   refine TQ.done (false) (trivial) ?_ (fun _ _ h => h.sel (js := [0]) (by decide)) (res0 Tryz.results85) _ (.inr rfl)
   rfl
  refine TO.nil ?_
  refine TQ.done (true) (trivial) ?_ (fun _ _ h => by rw [show l.length + 1 = k + 1 by omega]; exact h.sel (js := [0]) (by decide)) (res0 Tryz.results85) _ (.inr rfl)
  rfl
 try simp only [nrm] at h1
 refine T.skip (TQ.then_normal (T.seq (T.block (T.seq (T.region ?_)))))
 refine rdx (rd_move (v := .int _ _) rfl) ?_
 refine rdx (rd_ix Tryz.under31 Tryz.size40 rfl rfl (Has.arg 2 rfl) rfl (by omega) (by omega)) ?_
 refine rdx (rd_ela (cs := [.int _ _, .int _ _, .int _ _, .int _ _, .int _ _, .int _ _, .string _]) _ 0 Tryz.agg40 rfl (Has.arg 2 rfl) rfl (by omega) (Nat.le_of_ble_eq_true rfl) rfl rfl rfl) ?_
 refine TO.alloc Tryz.zero40 (fun b2 => ?_)
 refine rdx (rd_assign (v := .int _ _) rfl) ?_
 refine TO.store0 (cells' := #[.int _ _, .int _ _, .int _ _, .int _ _, .int _ _, .int _ _, .string _]) Tryz.size40 rfl (v := .agg #[.int _ _, .int _ _, .int _ _, .int _ _, .int _ _, .int _ _, .string _]) rfl rfl rfl (Nat.le_of_ble_eq_true rfl) rfl ?_
 refine TO.nil (TQ.then_normal (T.seq (T.seq (T.region ?_))))
 refine rdx (rd_move (v := .func _ _ _) rfl) ?_
 refine rdx (rd_move (v := .int _ _) rfl) ?_
 refine rdx (rd_move (v := .int _ _) rfl) ?_
 refine TO.front1 ?_
 refine TO.yield2 rfl (hY k (by omega)) (perEl_lt (by omega)).symm (fun X hX => Has.mem (List.mem_append_right _ hX)) ?_ ?_
 ·refine rdx (rd_not rfl) ?_
  refine TO.nil (TQ.then_normal ?_)
  refine T.cond_true rfl ?_
  refine T.ret (TQ.then_ret (TQ.block_ret (TQ.then_ret (TQ.then_ret (TQ.block_ret (TQ.then_ret ?_))))))
  refine TQ.done (false) (trivial) ?_ (fun _ _ h => h.sel (js := [0]) (by decide)) (res0 Tryz.results85) _ (.inl rfl)
  rfl
 refine rdx (rd_not rfl) ?_
 refine TO.nil (TQ.then_normal ?_)
 refine T.cond_false rfl ?_
 refine T.skip (TQ.then_normal (T.region ?_))
 refine rdx (rd_fieldAddr Tryz.field40_1 rfl) ?_
 refine rdx (rd_load (v := .int _ _) Tryz.one3 rfl (Has.own 1 rfl) rfl) ?_
 refine rdx (rd_assign (v := .int _ _) rfl) ?_
 refine TO.nil (TQ.block_normal (TQ.then_normal (T.region ?_)))
 refine rdx (rd_add rfl rfl (w64 (by omega) (by omega))) ?_
 refine rdx (rd_move (v := .int _ _) rfl) ?_
 refine TO.nil ?_
 refine TQ.againk (k + 1) ?_ ?_ (And.intro (congrArg (Value.int .i64) (whoAt_succ (by omega)).symm) (And.intro (rfl) (trivial))) (And.intro (rfl) (And.intro (rfl) (And.intro (rfl) (trivial)))) (fun _ _ h => h.sel (js := [0]) (by decide))
 ·first | omega | (dsimp only; omega)
 ·first | omega | (dsimp only; omega)
end Go.Proofs
end
